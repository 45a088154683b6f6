/- Of a text of ours what this claim needs. -/
import Derived.Test.YtpeefjfklklhdaaDoorZzFnWayWQ0
import Derived.Test.YtpeefjfklklhdaaDoorZzFnWayWQ5
import Derived.Test.YtpeefjfklklhdaaDoorZzFnWayWQ8
import Derived.Test.YtpeefjfklklhdaaDoorZzFnWayWQ22
namespace Go.Proofs.YtpeefjfklklhdaaDoor.Q
open Go.RowKit Go.Proofs.YtpeefjfklklhdaaDoorW.PrintWords Go.Proofs.YtpeefjfklklhdaaDoorW.PrintLast Go.Proofs.YtpeefjfklklhdaaDoorW.PrintMore
attribute [local go_sem] max2_int min2_int max_two min_two max_three min_three max_four min_four
set_option linter.unusedVariables false
set_option linter.unusedSimpArgs false
def spec_l3Own.l0:Nat→Int→ByteArray→List ByteArray→List (S69)→ByteArray→ByteArray→Option (Bool)
  | 0,_,_,_,_,_,_=>none
  | k+1,x5,x315000,x315001,x315002,x316000,x316001=>if x5 < (x315001.length:Int) then (if 0≤x5 then (if (rdOf ByteArray.empty x315001 x5).toList=x316001.toList then (some true) else (spec_l3Own.l0 k (wrap64 (x5+1)) x315000 x315001 x315002 x316000 x316001)) else (none)) else (some false)
def spec_l3Own.f (k:Nat) (a0_0:ByteArray) (l0_1:List ByteArray) (l0_2:List (S69)) (a1_0:ByteArray) (a1_1:ByteArray):Option (Bool):=spec_l3Own.l0 k 0 a0_0 l0_1 l0_2 a1_0 a1_1
set_option maxHeartbeats 8000000 in
set_option maxRecDepth 100000 in
theorem spec_l3Own.calls (k:Nat) (a0_0:ByteArray) (A0_1:Option Addr) (c0_1:Nat) (l0_1:List ByteArray) (A0_2:Option Addr) (c0_2:Nat) (l0_2:List (S69)) (a1_0:ByteArray) (a1_1:ByteArray) (r:Bool) (w:World) (hr0_1:Kd.C Kd.string w A0_1 l0_1.length l0_1) (hc0_1:l0_1.length≤c0_1) (hr0_2:Kd.C k69 w A0_2 l0_2.length l0_2) (hc0_2:l0_2.length≤c0_2) (h:spec_l3Own.f k a0_0 l0_1 l0_2 a1_0 a1_1=some r) :
    Calls Tryd.prog 94 #[.agg #[.string a0_0,.slice A0_1 l0_1.length c0_1,.slice A0_2 l0_2.length c0_2],.agg #[.string a1_0,.string a1_1]] w fun e w'=>e=.returned (.bool r)∧Below w.heap.size w w':=by
  have hu56:=Tryd.underlying56
  have hu32:=Tryd.underlying32
  have HR0_1:=Aside0.mk hr0_1
  have HC0_1:=Aside0.mk hc0_1
  clear hr0_1 hc0_1
  have HR0_2:=Aside0.mk hr0_2
  have HC0_2:=Aside0.mk hc0_2
  clear hr0_2 hc0_2
  have HB:=Aside0.mk (Below.refl w.heap.size w)
  have H:(spec_l3Own.l0 k 0 a0_0 l0_1 l0_2 a1_0 a1_1)=some r:=h
  clear h
  have H':=Aside0.mk H
  clear H
  go_enter Tryd.func94,Tryd.ntmps94
  go_wp2_with (first|((with_reducible refine gate_dst (N:=2) rfl ?_);refine box_event ?hg (N:=2) ?hd (cs:=#[.string a0_0,.slice A0_1 l0_1.length c0_1,.slice A0_2 l0_2.length c0_2]) (t:=56) ?hr ?_;(case hd=>rfl);(case hg=>rfl);(case hr=>first|(go_simp;done)|(go_simp;rfl));intro gb314 hg w3 hbox hb;have n0_:=Aside0.mk (below_step (by repeat (first|(with_reducible first|exact HB.out|apply below_alloc|apply pw_below_drewN|apply below_drew1)|exact HB.out)) hb);have n1_:=Aside0.mk (hbox);have n2_:=Aside0.mk ((by rw [hg];exact (below_size (by repeat (first|(with_reducible first|exact HB.out|apply below_alloc|apply pw_below_drewN|apply below_drew1)|exact HB.out))):w.heap.size≤gb314));have n3_:=Aside0.mk ((by rw [hg];exact (below_size (by repeat (first|(with_reducible first|exact HB.out|apply below_alloc|apply pw_below_drewN|apply below_drew1)|exact HB.out))):w.heap.size≤gb314));clear HB;have HB:=n0_;have BK314:=n1_;have GW314:=n2_;have GE314:=n3_;clear n0_ n1_ n2_ n3_;clear hb hbox hg)|((with_reducible refine gate_dst (N:=3) rfl ?_);refine box_event ?hg (N:=3) ?hd (cs:=#[.string a1_0,.string a1_1]) (t:=32) ?hr ?_;(case hd=>rfl);(case hg=>rfl);(case hr=>first|(go_simp;done)|(go_simp;rfl));intro gb315 hg w4 hbox hb;have n0_:=Aside0.mk (blk_below (g:=gb314) (o:=.cells #[.string a0_0,.slice A0_1 l0_1.length c0_1,.slice A0_2 l0_2.length c0_2] 56 (0,0)) (by (with_reducible repeat (first|refine blk_drewN ?_ _|refine blk_drew ?_|refine blk_alloc ?_ _));exact BK314.out) hb);have n1_:=Aside0.mk (below_step (by repeat (first|(with_reducible first|exact HB.out|apply below_alloc|apply pw_below_drewN|apply below_drew1|refine below_set ?_ GE314.out)|exact HB.out)) hb);have n2_:=Aside0.mk (hbox);have n3_:=Aside0.mk ((by rw [hg];exact (below_size (by repeat (first|(with_reducible first|exact HB.out|apply below_alloc|apply pw_below_drewN|apply below_drew1|refine below_set ?_ GE314.out)|exact HB.out))):w.heap.size≤gb315));have n4_:=Aside0.mk ((by rw [hg];exact (below_size (by repeat (first|(with_reducible first|exact HB.out|apply below_alloc|apply pw_below_drewN|apply below_drew1|refine below_set ?_ GE314.out)|exact HB.out))):w.heap.size≤gb315));have n5_:=Aside0.mk ((by rw [hg];exact Nat.ne_of_lt (blk_lt (g:=gb314) (o:=.cells #[.string a0_0,.slice A0_1 l0_1.length c0_1,.slice A0_2 l0_2.length c0_2] 56 (0,0)) (by (with_reducible repeat (first|refine blk_drewN ?_ _|refine blk_drew ?_|refine blk_alloc ?_ _));exact BK314.out)):gb314≠gb315));have n6_:=Aside0.mk ((by rw [hg];exact Nat.ne_of_gt (blk_lt (g:=gb314) (o:=.cells #[.string a0_0,.slice A0_1 l0_1.length c0_1,.slice A0_2 l0_2.length c0_2] 56 (0,0)) (by (with_reducible repeat (first|refine blk_drewN ?_ _|refine blk_drew ?_|refine blk_alloc ?_ _));exact BK314.out)):gb315≠gb314));clear BK314;clear HB;have BK314:=n0_;have HB:=n1_;have BK315:=n2_;have GW315:=n3_;have GE315:=n4_;have NB314_315:=n5_;have NB315_314:=n6_;clear n0_ n1_ n2_ n3_ n4_ n5_ n6_;clear hb hbox hg))
  repeat (go_quiet (first|((with_reducible refine gate_dst (N:=2) rfl ?_);refine box_event ?hg (N:=2) ?hd (cs:=#[.string a0_0,.slice A0_1 l0_1.length c0_1,.slice A0_2 l0_2.length c0_2]) (t:=56) ?hr ?_;(case hd=>rfl);(case hg=>rfl);(case hr=>first|(go_simp;done)|(go_simp;rfl));intro gb314 hg w3 hbox hb;have n0_:=Aside0.mk (below_step (by repeat (first|(with_reducible first|exact HB.out|apply below_alloc|apply pw_below_drewN|apply below_drew1)|exact HB.out)) hb);have n1_:=Aside0.mk (hbox);have n2_:=Aside0.mk ((by rw [hg];exact (below_size (by repeat (first|(with_reducible first|exact HB.out|apply below_alloc|apply pw_below_drewN|apply below_drew1)|exact HB.out))):w.heap.size≤gb314));have n3_:=Aside0.mk ((by rw [hg];exact (below_size (by repeat (first|(with_reducible first|exact HB.out|apply below_alloc|apply pw_below_drewN|apply below_drew1)|exact HB.out))):w.heap.size≤gb314));clear HB;have HB:=n0_;have BK314:=n1_;have GW314:=n2_;have GE314:=n3_;clear n0_ n1_ n2_ n3_;clear hb hbox hg)|((with_reducible refine gate_dst (N:=3) rfl ?_);refine box_event ?hg (N:=3) ?hd (cs:=#[.string a1_0,.string a1_1]) (t:=32) ?hr ?_;(case hd=>rfl);(case hg=>rfl);(case hr=>first|(go_simp;done)|(go_simp;rfl));intro gb315 hg w4 hbox hb;have n0_:=Aside0.mk (blk_below (g:=gb314) (o:=.cells #[.string a0_0,.slice A0_1 l0_1.length c0_1,.slice A0_2 l0_2.length c0_2] 56 (0,0)) (by (with_reducible repeat (first|refine blk_drewN ?_ _|refine blk_drew ?_|refine blk_alloc ?_ _));exact BK314.out) hb);have n1_:=Aside0.mk (below_step (by repeat (first|(with_reducible first|exact HB.out|apply below_alloc|apply pw_below_drewN|apply below_drew1|refine below_set ?_ GE314.out)|exact HB.out)) hb);have n2_:=Aside0.mk (hbox);have n3_:=Aside0.mk ((by rw [hg];exact (below_size (by repeat (first|(with_reducible first|exact HB.out|apply below_alloc|apply pw_below_drewN|apply below_drew1|refine below_set ?_ GE314.out)|exact HB.out))):w.heap.size≤gb315));have n4_:=Aside0.mk ((by rw [hg];exact (below_size (by repeat (first|(with_reducible first|exact HB.out|apply below_alloc|apply pw_below_drewN|apply below_drew1|refine below_set ?_ GE314.out)|exact HB.out))):w.heap.size≤gb315));have n5_:=Aside0.mk ((by rw [hg];exact Nat.ne_of_lt (blk_lt (g:=gb314) (o:=.cells #[.string a0_0,.slice A0_1 l0_1.length c0_1,.slice A0_2 l0_2.length c0_2] 56 (0,0)) (by (with_reducible repeat (first|refine blk_drewN ?_ _|refine blk_drew ?_|refine blk_alloc ?_ _));exact BK314.out)):gb314≠gb315));have n6_:=Aside0.mk ((by rw [hg];exact Nat.ne_of_gt (blk_lt (g:=gb314) (o:=.cells #[.string a0_0,.slice A0_1 l0_1.length c0_1,.slice A0_2 l0_2.length c0_2] 56 (0,0)) (by (with_reducible repeat (first|refine blk_drewN ?_ _|refine blk_drew ?_|refine blk_alloc ?_ _));exact BK314.out)):gb315≠gb314));clear BK314;clear HB;have BK314:=n0_;have HB:=n1_;have BK315:=n2_;have GW315:=n3_;have GE315:=n4_;have NB314_315:=n5_;have NB315_314:=n6_;clear n0_ n1_ n2_ n3_ n4_ n5_ n6_;clear hb hbox hg));try go_wp2_with (first|((with_reducible refine gate_dst (N:=2) rfl ?_);refine box_event ?hg (N:=2) ?hd (cs:=#[.string a0_0,.slice A0_1 l0_1.length c0_1,.slice A0_2 l0_2.length c0_2]) (t:=56) ?hr ?_;(case hd=>rfl);(case hg=>rfl);(case hr=>first|(go_simp;done)|(go_simp;rfl));intro gb314 hg w3 hbox hb;have n0_:=Aside0.mk (below_step (by repeat (first|(with_reducible first|exact HB.out|apply below_alloc|apply pw_below_drewN|apply below_drew1)|exact HB.out)) hb);have n1_:=Aside0.mk (hbox);have n2_:=Aside0.mk ((by rw [hg];exact (below_size (by repeat (first|(with_reducible first|exact HB.out|apply below_alloc|apply pw_below_drewN|apply below_drew1)|exact HB.out))):w.heap.size≤gb314));have n3_:=Aside0.mk ((by rw [hg];exact (below_size (by repeat (first|(with_reducible first|exact HB.out|apply below_alloc|apply pw_below_drewN|apply below_drew1)|exact HB.out))):w.heap.size≤gb314));clear HB;have HB:=n0_;have BK314:=n1_;have GW314:=n2_;have GE314:=n3_;clear n0_ n1_ n2_ n3_;clear hb hbox hg)|((with_reducible refine gate_dst (N:=3) rfl ?_);refine box_event ?hg (N:=3) ?hd (cs:=#[.string a1_0,.string a1_1]) (t:=32) ?hr ?_;(case hd=>rfl);(case hg=>rfl);(case hr=>first|(go_simp;done)|(go_simp;rfl));intro gb315 hg w4 hbox hb;have n0_:=Aside0.mk (blk_below (g:=gb314) (o:=.cells #[.string a0_0,.slice A0_1 l0_1.length c0_1,.slice A0_2 l0_2.length c0_2] 56 (0,0)) (by (with_reducible repeat (first|refine blk_drewN ?_ _|refine blk_drew ?_|refine blk_alloc ?_ _));exact BK314.out) hb);have n1_:=Aside0.mk (below_step (by repeat (first|(with_reducible first|exact HB.out|apply below_alloc|apply pw_below_drewN|apply below_drew1|refine below_set ?_ GE314.out)|exact HB.out)) hb);have n2_:=Aside0.mk (hbox);have n3_:=Aside0.mk ((by rw [hg];exact (below_size (by repeat (first|(with_reducible first|exact HB.out|apply below_alloc|apply pw_below_drewN|apply below_drew1|refine below_set ?_ GE314.out)|exact HB.out))):w.heap.size≤gb315));have n4_:=Aside0.mk ((by rw [hg];exact (below_size (by repeat (first|(with_reducible first|exact HB.out|apply below_alloc|apply pw_below_drewN|apply below_drew1|refine below_set ?_ GE314.out)|exact HB.out))):w.heap.size≤gb315));have n5_:=Aside0.mk ((by rw [hg];exact Nat.ne_of_lt (blk_lt (g:=gb314) (o:=.cells #[.string a0_0,.slice A0_1 l0_1.length c0_1,.slice A0_2 l0_2.length c0_2] 56 (0,0)) (by (with_reducible repeat (first|refine blk_drewN ?_ _|refine blk_drew ?_|refine blk_alloc ?_ _));exact BK314.out)):gb314≠gb315));have n6_:=Aside0.mk ((by rw [hg];exact Nat.ne_of_gt (blk_lt (g:=gb314) (o:=.cells #[.string a0_0,.slice A0_1 l0_1.length c0_1,.slice A0_2 l0_2.length c0_2] 56 (0,0)) (by (with_reducible repeat (first|refine blk_drewN ?_ _|refine blk_drew ?_|refine blk_alloc ?_ _));exact BK314.out)):gb315≠gb314));clear BK314;clear HB;have BK314:=n0_;have HB:=n1_;have BK315:=n2_;have GW315:=n3_;have GE315:=n4_;have NB314_315:=n5_;have NB315_314:=n6_;clear n0_ n1_ n2_ n3_ n4_ n5_ n6_;clear hb hbox hg)))
  go_loopg [5] k (fun kq v5 w'=>∃ (x5_1:Int),v5=.int .i64 x5_1∧Aside0 (spec_l3Own.l0 kq x5_1 a0_0 l0_1 l0_2 a1_0 a1_1=some r)∧Aside0 (kq≤k)∧Aside0 (w'.heap[gb314]?=some (.cells #[.string a0_0,(.slice A0_1 l0_1.length c0_1),(.slice A0_2 l0_2.length c0_2)] 56 (0,0)))∧Aside0 (w'.heap[gb315]?=some (.cells #[.string a1_0,.string a1_1] 32 (0,0)))∧Aside0 (Below w.heap.size w w'))
  case atStart=>exact ⟨(0),(by first|rfl|(simp;done)|(simp [*];done)),H',⟨Nat.le_refl _⟩,⟨by (with_reducible repeat (first|refine blk_drewN ?_ _|refine blk_drew ?_|refine blk_alloc ?_ _));exact BK314.out⟩,⟨by (with_reducible repeat (first|refine blk_drewN ?_ _|refine blk_drew ?_|refine blk_alloc ?_ _));exact BK315.out⟩,⟨by repeat (first|(with_reducible first|exact HB.out|apply below_alloc|apply pw_below_drewN|apply below_drew1|refine below_set ?_ GE314.out|refine below_set ?_ GE315.out)|exact HB.out)⟩⟩
  case round =>
    clear H'
    try clear p2
    obtain ⟨x5_1,rfl,HA,HK1,BK314,BK315,HB⟩:=hrel
    cases gk with
    | zero=>exact absurd HA.out (by simp [spec_l3Own.l0])
    | succ k1 =>
      have H:=HA.out
      clear HA
      simp only [spec_l3Own.l0] at H
      by_cases c5:x5_1 < (l0_1.length:Int)
      · rw [if_pos c5] at H
        have c5b0:decide (x5_1 < (l0_1.length:Int))=true:=decide_eq_true c5
        clear c5
        by_cases c6:0≤x5_1
        · rw [if_pos c6] at H
          have c6b0:decide (0≤x5_1)=true:=decide_eq_true c6
          clear c6
          by_cases c7:(rdOf ByteArray.empty l0_1 x5_1).toList=a1_1.toList
          · rw [if_pos c7] at H
            have c7b0:((rdOf ByteArray.empty l0_1 x5_1).toList==a1_1.toList)=true:=beq_iff_eq.mpr c7
            have c7b1:((rdOf ByteArray.empty l0_1 x5_1).toList != a1_1.toList)=false:=bne_eq_false_iff_eq.mpr c7
            clear c7
            obtain rfl:=Option.some.inj H
            have hnb8:=NB314_315.out
            have hnc8:=NB315_314.out
            have hcz9_0:wr.cell? ⟨gb314,0,none⟩=some (.string a0_0):=(blk_cell BK314.out 0).trans rfl
            have hcz9_1:wr.cell? ⟨gb314,1,none⟩=some (.slice A0_1 l0_1.length c0_1):=(blk_cell BK314.out 1).trans rfl
            have hcz9_2:wr.cell? ⟨gb314,2,none⟩=some (.slice A0_2 l0_2.length c0_2):=(blk_cell BK314.out 2).trans rfl
            have hfz9_0:=blk_frozen BK314.out 0
            have hfz9_1:=blk_frozen BK314.out 1
            have hfz9_2:=blk_frozen BK314.out 2
            have p316:0≤(x5_1:Int):=of_decide_eq_true (by first|(with_reducible assumption)|assumption)
            have q316:x5_1 < (l0_1.length:Int):=of_decide_eq_true (by first|(with_reducible assumption)|assumption)
            obtain ⟨ad316,e316,hx316_0⟩:=Kd.at_string HR0_1.out x5_1 p316 q316
            cases e316
            replace hx316_0:=(HB.out.cell (World.block_lt_of_cell? w _ hx316_0)).trans hx316_0
            replace p316:=eq_true p316
            replace q316:=eq_true q316
            have hcz10_0:wr.cell? ⟨gb315,0,none⟩=some (.string a1_0):=(blk_cell BK315.out 0).trans rfl
            have hcz10_1:wr.cell? ⟨gb315,1,none⟩=some (.string a1_1):=(blk_cell BK315.out 1).trans rfl
            have hfz10_0:=blk_frozen BK315.out 0
            have hfz10_1:=blk_frozen BK315.out 1
            go_wp2
            repeat (go_quiet (fail);try go_wp2)
            go_ret
            exact ⟨by first|rfl|(simp [errW_none,errW_some]<;>rfl)|(simp [*,errW_none,errW_some]<;>rfl),by repeat (first|(with_reducible first|exact HB.out|apply below_alloc|apply pw_below_drewN|apply below_drew1|refine below_set ?_ GE314.out|refine below_set ?_ GE315.out)|exact HB.out)⟩
          · rw [if_neg c7] at H
            have c7b0:((rdOf ByteArray.empty l0_1 x5_1).toList==a1_1.toList)=false:=beq_eq_false_iff_ne.mpr c7
            have c7b1:((rdOf ByteArray.empty l0_1 x5_1).toList != a1_1.toList)=true:=bne_iff_ne.mpr c7
            have H':=Aside0.mk H
            clear H
            have hnb11:=NB314_315.out
            have hnc11:=NB315_314.out
            have hcz12_0:wr.cell? ⟨gb314,0,none⟩=some (.string a0_0):=(blk_cell BK314.out 0).trans rfl
            have hcz12_1:wr.cell? ⟨gb314,1,none⟩=some (.slice A0_1 l0_1.length c0_1):=(blk_cell BK314.out 1).trans rfl
            have hcz12_2:wr.cell? ⟨gb314,2,none⟩=some (.slice A0_2 l0_2.length c0_2):=(blk_cell BK314.out 2).trans rfl
            have hfz12_0:=blk_frozen BK314.out 0
            have hfz12_1:=blk_frozen BK314.out 1
            have hfz12_2:=blk_frozen BK314.out 2
            have p316:0≤(x5_1:Int):=of_decide_eq_true (by first|(with_reducible assumption)|assumption)
            have q316:x5_1 < (l0_1.length:Int):=of_decide_eq_true (by first|(with_reducible assumption)|assumption)
            obtain ⟨ad316,e316,hx316_0⟩:=Kd.at_string HR0_1.out x5_1 p316 q316
            cases e316
            replace hx316_0:=(HB.out.cell (World.block_lt_of_cell? w _ hx316_0)).trans hx316_0
            replace p316:=eq_true p316
            replace q316:=eq_true q316
            have hcz13_0:wr.cell? ⟨gb315,0,none⟩=some (.string a1_0):=(blk_cell BK315.out 0).trans rfl
            have hcz13_1:wr.cell? ⟨gb315,1,none⟩=some (.string a1_1):=(blk_cell BK315.out 1).trans rfl
            have hfz13_0:=blk_frozen BK315.out 0
            have hfz13_1:=blk_frozen BK315.out 1
            go_wp2
            repeat (go_quiet (fail);try go_wp2)
            go_roundg k1
            case measure=>have:=HK1.out;omega
            case rel=>exact ⟨(wrap64 (x5_1+1)),(by first|rfl|(simp;done)|(simp [*];done)),H',⟨by have:=HK1.out;omega⟩,⟨by (with_reducible repeat (first|refine blk_drewN ?_ _|refine blk_drew ?_|refine blk_alloc ?_ _));exact BK314.out⟩,⟨by (with_reducible repeat (first|refine blk_drewN ?_ _|refine blk_drew ?_|refine blk_alloc ?_ _));exact BK315.out⟩,⟨by repeat (first|(with_reducible first|exact HB.out|apply below_alloc|apply pw_below_drewN|apply below_drew1|refine below_set ?_ GE314.out|refine below_set ?_ GE315.out)|exact HB.out)⟩⟩
        · rw [if_neg c6] at H
          exact absurd H (by simp)
      · rw [if_neg c5] at H
        have c5b0:decide (x5_1 < (l0_1.length:Int))=false:=decide_eq_false c5
        clear c5
        obtain rfl:=Option.some.inj H
        have hnb14:=NB314_315.out
        have hnc14:=NB315_314.out
        have hcz15_0:wr.cell? ⟨gb314,0,none⟩=some (.string a0_0):=(blk_cell BK314.out 0).trans rfl
        have hcz15_1:wr.cell? ⟨gb314,1,none⟩=some (.slice A0_1 l0_1.length c0_1):=(blk_cell BK314.out 1).trans rfl
        have hcz15_2:wr.cell? ⟨gb314,2,none⟩=some (.slice A0_2 l0_2.length c0_2):=(blk_cell BK314.out 2).trans rfl
        have hfz15_0:=blk_frozen BK314.out 0
        have hfz15_1:=blk_frozen BK314.out 1
        have hfz15_2:=blk_frozen BK314.out 2
        go_wp2
        repeat (go_quiet (fail);try go_wp2)
        go_ret
        exact ⟨by first|rfl|(simp [errW_none,errW_some]<;>rfl)|(simp [*,errW_none,errW_some]<;>rfl),by repeat (first|(with_reducible first|exact HB.out|apply below_alloc|apply pw_below_drewN|apply below_drew1|refine below_set ?_ GE314.out|refine below_set ?_ GE315.out)|exact HB.out)⟩
def spec_l3Way.l0:Nat→ByteArray→ByteArray→ByteArray→Int→ByteArray→List ByteArray→List (S69)→Option (ByteArray)
  | 0,_,_,_,_,_,_,_=>none
  | k+1,x1,x5,x6,x7,x315000,x315001,x315002=>if x7 < (x315002.length:Int) then (if 0≤x7 then ((spec_l1Ends.f x1 ((rd_T69 x315002 x7).f0)).bind fun t317=>(if t317=true then (if (((rd_T69 x315002 x7).f0).size:Int) > (x5.size:Int) then (spec_l3Way.l0 k x1 ((rd_T69 x315002 x7).f0) ((rd_T69 x315002 x7).f1) (wrap64 (x7+1)) x315000 x315001 x315002) else (spec_l3Way.l0 k x1 x5 x6 (wrap64 (x7+1)) x315000 x315001 x315002)) else (spec_l3Way.l0 k x1 x5 x6 (wrap64 (x7+1)) x315000 x315001 x315002))) else (none)) else (some x6)
def spec_l3Way.f (k:Nat) (a0_0:ByteArray) (l0_1:List ByteArray) (l0_2:List (S69)) (a1:ByteArray):Option (ByteArray):=spec_l3Way.l0 k a1 bz3 bz3 0 a0_0 l0_1 l0_2
set_option maxHeartbeats 8000000 in
set_option maxRecDepth 100000 in
theorem spec_l3Way.calls (k:Nat) (a0_0:ByteArray) (A0_1:Option Addr) (c0_1:Nat) (l0_1:List ByteArray) (A0_2:Option Addr) (c0_2:Nat) (l0_2:List (S69)) (a1:ByteArray) (r:ByteArray) (w:World) (hr0_1:Kd.C Kd.string w A0_1 l0_1.length l0_1) (hc0_1:l0_1.length≤c0_1) (hr0_2:Kd.C k69 w A0_2 l0_2.length l0_2) (hc0_2:l0_2.length≤c0_2) (h:spec_l3Way.f k a0_0 l0_1 l0_2 a1=some r) :
    Calls Tryd.prog 95 #[.agg #[.string a0_0,.slice A0_1 l0_1.length c0_1,.slice A0_2 l0_2.length c0_2],.string a1] w fun e w'=>e=.returned (.string r)∧Below w.heap.size w w':=by
  have hu56:=Tryd.underlying56
  have hu69:=Tryd.underlying69
  have HR0_1:=Aside0.mk hr0_1
  have HC0_1:=Aside0.mk hc0_1
  clear hr0_1 hc0_1
  have HR0_2:=Aside0.mk hr0_2
  have HC0_2:=Aside0.mk hc0_2
  clear hr0_2 hc0_2
  have HB:=Aside0.mk (Below.refl w.heap.size w)
  have H:(spec_l3Way.l0 k a1 bz3 bz3 0 a0_0 l0_1 l0_2)=some r:=h
  clear h
  have H':=Aside0.mk H
  clear H
  go_enter Tryd.func95,Tryd.ntmps95
  go_wp2_with (first|((with_reducible refine gate_dst (N:=2) rfl ?_);(try (refine gate_guard (by rfl) ?_;dsimp only));refine box_event ?hg (N:=2) ?hd (cs:=#[.string a0_0,.slice A0_1 l0_1.length c0_1,.slice A0_2 l0_2.length c0_2]) (t:=56) ?hr ?_;(case hd=>rfl);(case hg=>rfl);(case hr=>first|(go_simp;done)|(go_simp;rfl));intro gb314 hg w3 hbox hb;have n0_:=Aside0.mk (below_step (by repeat (first|(with_reducible first|exact HB.out|apply below_alloc|apply pw_below_drewN|apply below_drew1)|exact HB.out)) hb);have n1_:=Aside0.mk (hbox);have n2_:=Aside0.mk ((by rw [hg];exact (below_size (by repeat (first|(with_reducible first|exact HB.out|apply below_alloc|apply pw_below_drewN|apply below_drew1)|exact HB.out))):w.heap.size≤gb314));have n3_:=Aside0.mk ((by rw [hg];exact (below_size (by repeat (first|(with_reducible first|exact HB.out|apply below_alloc|apply pw_below_drewN|apply below_drew1)|exact HB.out))):w.heap.size≤gb314));clear HB;have HB:=n0_;have BK314:=n1_;have GW314:=n2_;have GE314:=n3_;clear n0_ n1_ n2_ n3_;clear hb hbox hg))
  go_loopg [5,6,7] k (fun kq v5 v6 v7 w'=>∃ (x5_1:ByteArray) (x6_1:ByteArray) (x7_1:Int),v5=.string x5_1∧v6=.string x6_1∧v7=.int .i64 x7_1∧Aside0 (spec_l3Way.l0 kq a1 x5_1 x6_1 x7_1 a0_0 l0_1 l0_2=some r)∧Aside0 (kq≤k)∧Aside0 (w'.heap[gb314]?=some (.cells #[.string a0_0,(.slice A0_1 l0_1.length c0_1),(.slice A0_2 l0_2.length c0_2)] 56 (0,0)))∧Aside0 (Below w.heap.size w w'))
  case atStart=>exact ⟨(bz3),(bz3),(0),(by first|rfl|(simp;done)|(simp [*];done)),(by first|rfl|(simp;done)|(simp [*];done)),(by first|rfl|(simp;done)|(simp [*];done)),H',⟨Nat.le_refl _⟩,⟨by (with_reducible repeat (first|refine blk_drewN ?_ _|refine blk_drew ?_|refine blk_alloc ?_ _));exact BK314.out⟩,⟨by repeat (first|(with_reducible first|exact HB.out|apply below_alloc|apply pw_below_drewN|apply below_drew1|refine below_set ?_ GE314.out)|exact HB.out)⟩⟩
  case round =>
    clear H'
    try clear p2
    obtain ⟨x5_1,x6_1,x7_1,rfl,rfl,rfl,HA,HK1,BK314,HB⟩:=hrel
    cases gk with
    | zero=>exact absurd HA.out (by simp [spec_l3Way.l0])
    | succ k1 =>
      have H:=HA.out
      clear HA
      simp only [spec_l3Way.l0] at H
      by_cases c4:x7_1 < (l0_2.length:Int)
      · rw [if_pos c4] at H
        have c4b0:decide (x7_1 < (l0_2.length:Int))=true:=decide_eq_true c4
        clear c4
        by_cases c5:0≤x7_1
        · rw [if_pos c5] at H
          have c5b0:decide (0≤x7_1)=true:=decide_eq_true c5
          clear c5
          replace H:=Option.bind_eq_some_iff.mp H
          obtain ⟨t317,A60,H⟩:=H
          replace H:(if t317=true then (if (((rd_T69 l0_2 x7_1).f0).size:Int) > (x5_1.size:Int) then (spec_l3Way.l0 k1 a1 ((rd_T69 l0_2 x7_1).f0) ((rd_T69 l0_2 x7_1).f1) (wrap64 (x7_1+1)) a0_0 l0_1 l0_2) else (spec_l3Way.l0 k1 a1 x5_1 x6_1 (wrap64 (x7_1+1)) a0_0 l0_1 l0_2)) else (spec_l3Way.l0 k1 a1 x5_1 x6_1 (wrap64 (x7_1+1)) a0_0 l0_1 l0_2))=some r:=H
          have A6:=Aside0.mk A60
          clear A60
          by_cases c7:t317=true
          · subst c7
            have H1:(if (((rd_T69 l0_2 x7_1).f0).size:Int) > (x5_1.size:Int) then (spec_l3Way.l0 k1 a1 ((rd_T69 l0_2 x7_1).f0) ((rd_T69 l0_2 x7_1).f1) (wrap64 (x7_1+1)) a0_0 l0_1 l0_2) else (spec_l3Way.l0 k1 a1 x5_1 x6_1 (wrap64 (x7_1+1)) a0_0 l0_1 l0_2))=some r:=by rw [if_pos rfl] at H;exact H
            clear H
            have H:=H1
            clear H1
            by_cases c8:(((rd_T69 l0_2 x7_1).f0).size:Int) > (x5_1.size:Int)
            · rw [if_pos c8] at H
              have c8b0:decide ((x5_1.size:Int) < (((rd_T69 l0_2 x7_1).f0).size:Int))=true:=decide_eq_true c8
              have c8b1:decide (x5_1.size < ((rd_T69 l0_2 x7_1).f0).size)=true:=decide_eq_true (Int.ofNat_lt.mp c8)
              clear c8
              have H':=Aside0.mk H
              clear H
              have hcz9_0:wr.cell? ⟨gb314,0,none⟩=some (.string a0_0):=(blk_cell BK314.out 0).trans rfl
              have hcz9_1:wr.cell? ⟨gb314,1,none⟩=some (.slice A0_1 l0_1.length c0_1):=(blk_cell BK314.out 1).trans rfl
              have hcz9_2:wr.cell? ⟨gb314,2,none⟩=some (.slice A0_2 l0_2.length c0_2):=(blk_cell BK314.out 2).trans rfl
              have hfz9_0:=blk_frozen BK314.out 0
              have hfz9_1:=blk_frozen BK314.out 1
              have hfz9_2:=blk_frozen BK314.out 2
              have p315:0≤(x7_1:Int):=of_decide_eq_true (by first|(with_reducible assumption)|assumption)
              have q315:x7_1 < (l0_2.length:Int):=of_decide_eq_true (by first|(with_reducible assumption)|assumption)
              obtain ⟨ad315,e315,hx315_0,hx315_1⟩:=at_T69 HR0_2.out x7_1 p315 q315
              cases e315
              replace hx315_0:=(HB.out.cell (World.block_lt_of_cell? w _ hx315_0)).trans hx315_0
              replace hx315_1:=(HB.out.cell (World.block_lt_of_cell? w _ hx315_1)).trans hx315_1
              replace p315:=eq_true p315
              replace q315:=eq_true q315
              go_wp2_with (first|((with_reducible refine gate_dst (N:=8) rfl ?_);(try (refine gate_guard (by rfl) ?_;dsimp only));refine box_event ?hg (N:=8) ?hd (cs:=#[.string bz3,.string bz3]) (t:=69) ?hr ?_;(case hd=>rfl);(case hg=>rfl);(case hr=>first|(go_simp;done)|(go_simp;rfl));intro gb316 hg w10 hbox hb;have n0_:=Aside0.mk (blk_below (g:=gb314) (o:=.cells #[.string a0_0,.slice A0_1 l0_1.length c0_1,.slice (some ad315) l0_2.length c0_2] 56 (0,0)) (by (with_reducible repeat (first|refine blk_drewN ?_ _|refine blk_drew ?_|refine blk_alloc ?_ _));exact BK314.out) hb);have n1_:=Aside0.mk (below_step (by repeat (first|(with_reducible first|exact HB.out|apply below_alloc|apply pw_below_drewN|apply below_drew1|refine below_set ?_ GE314.out)|exact HB.out)) hb);have n2_:=Aside0.mk (hbox);have n3_:=Aside0.mk ((by rw [hg];exact (below_size (by repeat (first|(with_reducible first|exact HB.out|apply below_alloc|apply pw_below_drewN|apply below_drew1|refine below_set ?_ GE314.out)|exact HB.out))):w.heap.size≤gb316));have n4_:=Aside0.mk ((by rw [hg];exact (below_size (by repeat (first|(with_reducible first|exact HB.out|apply below_alloc|apply pw_below_drewN|apply below_drew1|refine below_set ?_ GE314.out)|exact HB.out))):w.heap.size≤gb316));have n5_:=Aside0.mk ((by rw [hg];exact Nat.ne_of_lt (blk_lt (g:=gb314) (o:=.cells #[.string a0_0,.slice A0_1 l0_1.length c0_1,.slice (some ad315) l0_2.length c0_2] 56 (0,0)) (by (with_reducible repeat (first|refine blk_drewN ?_ _|refine blk_drew ?_|refine blk_alloc ?_ _));exact BK314.out)):gb314≠gb316));have n6_:=Aside0.mk ((by rw [hg];exact Nat.ne_of_gt (blk_lt (g:=gb314) (o:=.cells #[.string a0_0,.slice A0_1 l0_1.length c0_1,.slice (some ad315) l0_2.length c0_2] 56 (0,0)) (by (with_reducible repeat (first|refine blk_drewN ?_ _|refine blk_drew ?_|refine blk_alloc ?_ _));exact BK314.out)):gb316≠gb314));clear BK314;clear HB;have BK314:=n0_;have HB:=n1_;have BK316:=n2_;have GW316:=n3_;have GE316:=n4_;have NB314_316:=n5_;have NB316_314:=n6_;clear n0_ n1_ n2_ n3_ n4_ n5_ n6_;clear hb hbox hg;have hnb11:=NB316_314.out;have hnc11:=NB314_316.out;have hcz12_0:w10.cell? ⟨gb316,0,none⟩=some (.string bz3):=(blk_cell BK316.out 0).trans rfl;have hcz12_1:w10.cell? ⟨gb316,1,none⟩=some (.string bz3):=(blk_cell BK316.out 1).trans rfl;have hfz12_0:=blk_frozen BK316.out 0;have hfz12_1:=blk_frozen BK316.out 1)|((with_reducible refine gate_callee (f:=60) rfl ?_);refine goesL_ (some 24) rfl rfl Tryd.func60 (by kernel_rfl) rfl #[.string a1,.string ((rd_T69 l0_2 x7_1).f0)] rfl (by (try simp only [List.map_toArray,List.map_cons,List.map_nil]);first|done|rfl|(simp only [List.length_drop,List.length_take];rfl)) ?_;(with_reducible refine (spec_l1Ends.calls a1 ((rd_T69 l0_2 x7_1).f0) true _ A6.out).mono ?_);rintro e w' ⟨rfl,⟨nd,rfl⟩⟩;refine ⟨_,rfl,?_⟩))
              go_roundg k1
              case measure=>have:=HK1.out;omega
              case rel=>exact ⟨((rd_T69 l0_2 x7_1).f0),((rd_T69 l0_2 x7_1).f1),(wrap64 (x7_1+1)),(by first|rfl|(simp;done)|(simp [*];done)),(by first|rfl|(simp;done)|(simp [*];done)),(by first|rfl|(simp;done)|(simp [*];done)),H',⟨by have:=HK1.out;omega⟩,⟨by (with_reducible repeat (first|refine blk_drewN ?_ _|refine blk_drew ?_|refine blk_alloc ?_ _));refine blk_far ?_ NB314_316.out _;(with_reducible repeat (first|refine blk_drewN ?_ _|refine blk_drew ?_|refine blk_alloc ?_ _));refine blk_far ?_ NB314_316.out _;(with_reducible repeat (first|refine blk_drewN ?_ _|refine blk_drew ?_|refine blk_alloc ?_ _));exact BK314.out⟩,⟨by repeat (first|(with_reducible first|exact HB.out|apply below_alloc|apply pw_below_drewN|apply below_drew1|refine below_set ?_ GE314.out|refine below_set ?_ GE316.out)|exact HB.out)⟩⟩
            · rw [if_neg c8] at H
              have c8b0:decide ((x5_1.size:Int) < (((rd_T69 l0_2 x7_1).f0).size:Int))=false:=decide_eq_false c8
              have c8b1:decide (x5_1.size < ((rd_T69 l0_2 x7_1).f0).size)=false:=decide_eq_false (fun h=>c8 (Int.ofNat_lt.mpr h))
              clear c8
              have H':=Aside0.mk H
              clear H
              have hcz13_0:wr.cell? ⟨gb314,0,none⟩=some (.string a0_0):=(blk_cell BK314.out 0).trans rfl
              have hcz13_1:wr.cell? ⟨gb314,1,none⟩=some (.slice A0_1 l0_1.length c0_1):=(blk_cell BK314.out 1).trans rfl
              have hcz13_2:wr.cell? ⟨gb314,2,none⟩=some (.slice A0_2 l0_2.length c0_2):=(blk_cell BK314.out 2).trans rfl
              have hfz13_0:=blk_frozen BK314.out 0
              have hfz13_1:=blk_frozen BK314.out 1
              have hfz13_2:=blk_frozen BK314.out 2
              have p315:0≤(x7_1:Int):=of_decide_eq_true (by first|(with_reducible assumption)|assumption)
              have q315:x7_1 < (l0_2.length:Int):=of_decide_eq_true (by first|(with_reducible assumption)|assumption)
              obtain ⟨ad315,e315,hx315_0,hx315_1⟩:=at_T69 HR0_2.out x7_1 p315 q315
              cases e315
              replace hx315_0:=(HB.out.cell (World.block_lt_of_cell? w _ hx315_0)).trans hx315_0
              replace hx315_1:=(HB.out.cell (World.block_lt_of_cell? w _ hx315_1)).trans hx315_1
              replace p315:=eq_true p315
              replace q315:=eq_true q315
              go_wp2_with (first|((with_reducible refine gate_dst (N:=8) rfl ?_);(try (refine gate_guard (by rfl) ?_;dsimp only));refine box_event ?hg (N:=8) ?hd (cs:=#[.string bz3,.string bz3]) (t:=69) ?hr ?_;(case hd=>rfl);(case hg=>rfl);(case hr=>first|(go_simp;done)|(go_simp;rfl));intro gb316 hg w14 hbox hb;have n0_:=Aside0.mk (blk_below (g:=gb314) (o:=.cells #[.string a0_0,.slice A0_1 l0_1.length c0_1,.slice (some ad315) l0_2.length c0_2] 56 (0,0)) (by (with_reducible repeat (first|refine blk_drewN ?_ _|refine blk_drew ?_|refine blk_alloc ?_ _));exact BK314.out) hb);have n1_:=Aside0.mk (below_step (by repeat (first|(with_reducible first|exact HB.out|apply below_alloc|apply pw_below_drewN|apply below_drew1|refine below_set ?_ GE314.out)|exact HB.out)) hb);have n2_:=Aside0.mk (hbox);have n3_:=Aside0.mk ((by rw [hg];exact (below_size (by repeat (first|(with_reducible first|exact HB.out|apply below_alloc|apply pw_below_drewN|apply below_drew1|refine below_set ?_ GE314.out)|exact HB.out))):w.heap.size≤gb316));have n4_:=Aside0.mk ((by rw [hg];exact (below_size (by repeat (first|(with_reducible first|exact HB.out|apply below_alloc|apply pw_below_drewN|apply below_drew1|refine below_set ?_ GE314.out)|exact HB.out))):w.heap.size≤gb316));have n5_:=Aside0.mk ((by rw [hg];exact Nat.ne_of_lt (blk_lt (g:=gb314) (o:=.cells #[.string a0_0,.slice A0_1 l0_1.length c0_1,.slice (some ad315) l0_2.length c0_2] 56 (0,0)) (by (with_reducible repeat (first|refine blk_drewN ?_ _|refine blk_drew ?_|refine blk_alloc ?_ _));exact BK314.out)):gb314≠gb316));have n6_:=Aside0.mk ((by rw [hg];exact Nat.ne_of_gt (blk_lt (g:=gb314) (o:=.cells #[.string a0_0,.slice A0_1 l0_1.length c0_1,.slice (some ad315) l0_2.length c0_2] 56 (0,0)) (by (with_reducible repeat (first|refine blk_drewN ?_ _|refine blk_drew ?_|refine blk_alloc ?_ _));exact BK314.out)):gb316≠gb314));clear BK314;clear HB;have BK314:=n0_;have HB:=n1_;have BK316:=n2_;have GW316:=n3_;have GE316:=n4_;have NB314_316:=n5_;have NB316_314:=n6_;clear n0_ n1_ n2_ n3_ n4_ n5_ n6_;clear hb hbox hg;have hnb15:=NB316_314.out;have hnc15:=NB314_316.out;have hcz16_0:w14.cell? ⟨gb316,0,none⟩=some (.string bz3):=(blk_cell BK316.out 0).trans rfl;have hcz16_1:w14.cell? ⟨gb316,1,none⟩=some (.string bz3):=(blk_cell BK316.out 1).trans rfl;have hfz16_0:=blk_frozen BK316.out 0;have hfz16_1:=blk_frozen BK316.out 1)|((with_reducible refine gate_callee (f:=60) rfl ?_);refine goesL_ (some 24) rfl rfl Tryd.func60 (by kernel_rfl) rfl #[.string a1,.string ((rd_T69 l0_2 x7_1).f0)] rfl (by (try simp only [List.map_toArray,List.map_cons,List.map_nil]);first|done|rfl|(simp only [List.length_drop,List.length_take];rfl)) ?_;(with_reducible refine (spec_l1Ends.calls a1 ((rd_T69 l0_2 x7_1).f0) true _ A6.out).mono ?_);rintro e w' ⟨rfl,⟨nd,rfl⟩⟩;refine ⟨_,rfl,?_⟩))
              go_roundg k1
              case measure=>have:=HK1.out;omega
              case rel=>exact ⟨(x5_1),(x6_1),(wrap64 (x7_1+1)),(by first|rfl|(simp;done)|(simp [*];done)),(by first|rfl|(simp;done)|(simp [*];done)),(by first|rfl|(simp;done)|(simp [*];done)),H',⟨by have:=HK1.out;omega⟩,⟨by (with_reducible repeat (first|refine blk_drewN ?_ _|refine blk_drew ?_|refine blk_alloc ?_ _));refine blk_far ?_ NB314_316.out _;(with_reducible repeat (first|refine blk_drewN ?_ _|refine blk_drew ?_|refine blk_alloc ?_ _));refine blk_far ?_ NB314_316.out _;(with_reducible repeat (first|refine blk_drewN ?_ _|refine blk_drew ?_|refine blk_alloc ?_ _));exact BK314.out⟩,⟨by repeat (first|(with_reducible first|exact HB.out|apply below_alloc|apply pw_below_drewN|apply below_drew1|refine below_set ?_ GE314.out|refine below_set ?_ GE316.out)|exact HB.out)⟩⟩
          · replace c7:=Bool.eq_false_iff.mpr c7
            subst c7
            have H1:(spec_l3Way.l0 k1 a1 x5_1 x6_1 (wrap64 (x7_1+1)) a0_0 l0_1 l0_2)=some r:=by rw [if_neg (show ¬ (false=true) by decide)] at H;exact H
            clear H
            have H:=H1
            clear H1
            have H':=Aside0.mk H
            clear H
            have hcz17_0:wr.cell? ⟨gb314,0,none⟩=some (.string a0_0):=(blk_cell BK314.out 0).trans rfl
            have hcz17_1:wr.cell? ⟨gb314,1,none⟩=some (.slice A0_1 l0_1.length c0_1):=(blk_cell BK314.out 1).trans rfl
            have hcz17_2:wr.cell? ⟨gb314,2,none⟩=some (.slice A0_2 l0_2.length c0_2):=(blk_cell BK314.out 2).trans rfl
            have hfz17_0:=blk_frozen BK314.out 0
            have hfz17_1:=blk_frozen BK314.out 1
            have hfz17_2:=blk_frozen BK314.out 2
            have p315:0≤(x7_1:Int):=of_decide_eq_true (by first|(with_reducible assumption)|assumption)
            have q315:x7_1 < (l0_2.length:Int):=of_decide_eq_true (by first|(with_reducible assumption)|assumption)
            obtain ⟨ad315,e315,hx315_0,hx315_1⟩:=at_T69 HR0_2.out x7_1 p315 q315
            cases e315
            replace hx315_0:=(HB.out.cell (World.block_lt_of_cell? w _ hx315_0)).trans hx315_0
            replace hx315_1:=(HB.out.cell (World.block_lt_of_cell? w _ hx315_1)).trans hx315_1
            replace p315:=eq_true p315
            replace q315:=eq_true q315
            go_wp2_with (first|((with_reducible refine gate_dst (N:=8) rfl ?_);(try (refine gate_guard (by rfl) ?_;dsimp only));refine box_event ?hg (N:=8) ?hd (cs:=#[.string bz3,.string bz3]) (t:=69) ?hr ?_;(case hd=>rfl);(case hg=>rfl);(case hr=>first|(go_simp;done)|(go_simp;rfl));intro gb316 hg w18 hbox hb;have n0_:=Aside0.mk (blk_below (g:=gb314) (o:=.cells #[.string a0_0,.slice A0_1 l0_1.length c0_1,.slice (some ad315) l0_2.length c0_2] 56 (0,0)) (by (with_reducible repeat (first|refine blk_drewN ?_ _|refine blk_drew ?_|refine blk_alloc ?_ _));exact BK314.out) hb);have n1_:=Aside0.mk (below_step (by repeat (first|(with_reducible first|exact HB.out|apply below_alloc|apply pw_below_drewN|apply below_drew1|refine below_set ?_ GE314.out)|exact HB.out)) hb);have n2_:=Aside0.mk (hbox);have n3_:=Aside0.mk ((by rw [hg];exact (below_size (by repeat (first|(with_reducible first|exact HB.out|apply below_alloc|apply pw_below_drewN|apply below_drew1|refine below_set ?_ GE314.out)|exact HB.out))):w.heap.size≤gb316));have n4_:=Aside0.mk ((by rw [hg];exact (below_size (by repeat (first|(with_reducible first|exact HB.out|apply below_alloc|apply pw_below_drewN|apply below_drew1|refine below_set ?_ GE314.out)|exact HB.out))):w.heap.size≤gb316));have n5_:=Aside0.mk ((by rw [hg];exact Nat.ne_of_lt (blk_lt (g:=gb314) (o:=.cells #[.string a0_0,.slice A0_1 l0_1.length c0_1,.slice (some ad315) l0_2.length c0_2] 56 (0,0)) (by (with_reducible repeat (first|refine blk_drewN ?_ _|refine blk_drew ?_|refine blk_alloc ?_ _));exact BK314.out)):gb314≠gb316));have n6_:=Aside0.mk ((by rw [hg];exact Nat.ne_of_gt (blk_lt (g:=gb314) (o:=.cells #[.string a0_0,.slice A0_1 l0_1.length c0_1,.slice (some ad315) l0_2.length c0_2] 56 (0,0)) (by (with_reducible repeat (first|refine blk_drewN ?_ _|refine blk_drew ?_|refine blk_alloc ?_ _));exact BK314.out)):gb316≠gb314));clear BK314;clear HB;have BK314:=n0_;have HB:=n1_;have BK316:=n2_;have GW316:=n3_;have GE316:=n4_;have NB314_316:=n5_;have NB316_314:=n6_;clear n0_ n1_ n2_ n3_ n4_ n5_ n6_;clear hb hbox hg;have hnb19:=NB316_314.out;have hnc19:=NB314_316.out;have hcz20_0:w18.cell? ⟨gb316,0,none⟩=some (.string bz3):=(blk_cell BK316.out 0).trans rfl;have hcz20_1:w18.cell? ⟨gb316,1,none⟩=some (.string bz3):=(blk_cell BK316.out 1).trans rfl;have hfz20_0:=blk_frozen BK316.out 0;have hfz20_1:=blk_frozen BK316.out 1)|((with_reducible refine gate_callee (f:=60) rfl ?_);refine goesL_ (some 24) rfl rfl Tryd.func60 (by kernel_rfl) rfl #[.string a1,.string ((rd_T69 l0_2 x7_1).f0)] rfl (by (try simp only [List.map_toArray,List.map_cons,List.map_nil]);first|done|rfl|(simp only [List.length_drop,List.length_take];rfl)) ?_;(with_reducible refine (spec_l1Ends.calls a1 ((rd_T69 l0_2 x7_1).f0) false _ A6.out).mono ?_);rintro e w' ⟨rfl,⟨nd,rfl⟩⟩;refine ⟨_,rfl,?_⟩))
            go_roundg k1
            case measure=>have:=HK1.out;omega
            case rel=>exact ⟨(x5_1),(x6_1),(wrap64 (x7_1+1)),(by first|rfl|(simp;done)|(simp [*];done)),(by first|rfl|(simp;done)|(simp [*];done)),(by first|rfl|(simp;done)|(simp [*];done)),H',⟨by have:=HK1.out;omega⟩,⟨by (with_reducible repeat (first|refine blk_drewN ?_ _|refine blk_drew ?_|refine blk_alloc ?_ _));refine blk_far ?_ NB314_316.out _;(with_reducible repeat (first|refine blk_drewN ?_ _|refine blk_drew ?_|refine blk_alloc ?_ _));refine blk_far ?_ NB314_316.out _;(with_reducible repeat (first|refine blk_drewN ?_ _|refine blk_drew ?_|refine blk_alloc ?_ _));exact BK314.out⟩,⟨by repeat (first|(with_reducible first|exact HB.out|apply below_alloc|apply pw_below_drewN|apply below_drew1|refine below_set ?_ GE314.out|refine below_set ?_ GE316.out)|exact HB.out)⟩⟩
        · rw [if_neg c5] at H
          exact absurd H (by simp)
      · rw [if_neg c4] at H
        have c4b0:decide (x7_1 < (l0_2.length:Int))=false:=decide_eq_false c4
        clear c4
        obtain rfl:=Option.some.inj H
        have hcz21_0:wr.cell? ⟨gb314,0,none⟩=some (.string a0_0):=(blk_cell BK314.out 0).trans rfl
        have hcz21_1:wr.cell? ⟨gb314,1,none⟩=some (.slice A0_1 l0_1.length c0_1):=(blk_cell BK314.out 1).trans rfl
        have hcz21_2:wr.cell? ⟨gb314,2,none⟩=some (.slice A0_2 l0_2.length c0_2):=(blk_cell BK314.out 2).trans rfl
        have hfz21_0:=blk_frozen BK314.out 0
        have hfz21_1:=blk_frozen BK314.out 1
        have hfz21_2:=blk_frozen BK314.out 2
        go_wp2
        go_ret
        exact ⟨by first|rfl|(simp [errW_none,errW_some]<;>rfl)|(simp [*,errW_none,errW_some]<;>rfl),by repeat (first|(with_reducible first|exact HB.out|apply below_alloc|apply pw_below_drewN|apply below_drew1|refine below_set ?_ GE314.out)|exact HB.out)⟩
end Go.Proofs.YtpeefjfklklhdaaDoor.Q
