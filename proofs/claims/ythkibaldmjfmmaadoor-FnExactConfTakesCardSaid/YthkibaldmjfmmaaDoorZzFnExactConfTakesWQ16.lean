/- Of a text of ours what this claim needs. -/
import Derived.Test.YthkibaldmjfmmaaDoorZzFnExactConfTakesWQ0
namespace Go.Proofs.YthkibaldmjfmmaaDoor.Q
open Go.RowKit Go.Proofs.YthkibaldmjfmmaaDoorW.PrintWords Go.Proofs.YthkibaldmjfmmaaDoorW.PrintLast Go.Proofs.YthkibaldmjfmmaaDoorW.PrintMore
attribute [local go_sem] max2_int min2_int max_two min_two max_three min_three max_four min_four
set_option linter.unusedVariables false
set_option linter.unusedSimpArgs false
def spec_l3Own.l0:Nat→Int→ByteArray→List ByteArray→List (S117)→ByteArray→ByteArray→Option (Bool)
  | 0,_,_,_,_,_,_=>none
  | k+1,x5,x139000,x139001,x139002,x140000,x140001=>if x5 < (x139001.length:Int) then (if 0≤x5 then (if (rdOf ByteArray.empty x139001 x5).toList=x140001.toList then (some true) else (spec_l3Own.l0 k (wrap64 (x5+1)) x139000 x139001 x139002 x140000 x140001)) else (none)) else (some false)
def spec_l3Own.f (k:Nat) (a0_0:ByteArray) (l0_1:List ByteArray) (l0_2:List (S117)) (a1_0:ByteArray) (a1_1:ByteArray):Option (Bool):=spec_l3Own.l0 k 0 a0_0 l0_1 l0_2 a1_0 a1_1
set_option maxHeartbeats 8000000 in
set_option maxRecDepth 100000 in
theorem spec_l3Own.calls (k:Nat) (a0_0:ByteArray) (A0_1:Option Addr) (c0_1:Nat) (l0_1:List ByteArray) (A0_2:Option Addr) (c0_2:Nat) (l0_2:List (S117)) (a1_0:ByteArray) (a1_1:ByteArray) (r:Bool) (w:World) (hr0_1:Kd.C Kd.string w A0_1 l0_1.length l0_1) (hc0_1:l0_1.length≤c0_1) (hr0_2:Kd.C k117 w A0_2 l0_2.length l0_2) (hc0_2:l0_2.length≤c0_2) (h:spec_l3Own.f k a0_0 l0_1 l0_2 a1_0 a1_1=some r) :
    Calls Tryd.prog 59 #[.agg #[.string a0_0,.slice A0_1 l0_1.length c0_1,.slice A0_2 l0_2.length c0_2],.agg #[.string a1_0,.string a1_1]] w fun e w'=>e=.returned (.bool r)∧Below w.heap.size w w':=by
  have hu44:=Tryd.underlying44
  have hu30:=Tryd.underlying30
  have HR0_1:=Aside0.mk hr0_1
  have HC0_1:=Aside0.mk hc0_1
  clear hr0_1 hc0_1
  have HR0_2:=Aside0.mk hr0_2
  have HC0_2:=Aside0.mk hc0_2
  clear hr0_2 hc0_2
  have HB:=Aside0.mk (Below.refl w.heap.size w)
  have H:(spec_l3Own.l0 k 0 a0_0 l0_1 l0_2 a1_0 a1_1)=some r:=h
  clear h
  have H':=Aside0.mk H
  clear H
  go_enter Tryd.func59,Tryd.ntmps59
  go_wp2_with (first|((with_reducible refine gate_dst (N:=2) rfl ?_);refine box_event ?hg (N:=2) ?hd (cs:=#[.string a0_0,.slice A0_1 l0_1.length c0_1,.slice A0_2 l0_2.length c0_2]) (t:=44) ?hr ?_;(case hd=>rfl);(case hg=>rfl);(case hr=>first|(go_simp;done)|(go_simp;rfl));intro gb138 hg w3 hbox hb;have n0_:=Aside0.mk (below_step (by repeat (first|(with_reducible first|exact HB.out|apply below_alloc|apply pw_below_drewN|apply below_drew1)|exact HB.out)) hb);have n1_:=Aside0.mk (hbox);have n2_:=Aside0.mk ((by rw [hg];exact (below_size (by repeat (first|(with_reducible first|exact HB.out|apply below_alloc|apply pw_below_drewN|apply below_drew1)|exact HB.out))):w.heap.size≤gb138));have n3_:=Aside0.mk ((by rw [hg];exact (below_size (by repeat (first|(with_reducible first|exact HB.out|apply below_alloc|apply pw_below_drewN|apply below_drew1)|exact HB.out))):w.heap.size≤gb138));clear HB;have HB:=n0_;have BK138:=n1_;have GW138:=n2_;have GE138:=n3_;clear n0_ n1_ n2_ n3_;clear hb hbox hg)|((with_reducible refine gate_dst (N:=3) rfl ?_);refine box_event ?hg (N:=3) ?hd (cs:=#[.string a1_0,.string a1_1]) (t:=30) ?hr ?_;(case hd=>rfl);(case hg=>rfl);(case hr=>first|(go_simp;done)|(go_simp;rfl));intro gb139 hg w4 hbox hb;have n0_:=Aside0.mk (blk_below (g:=gb138) (o:=.cells #[.string a0_0,.slice A0_1 l0_1.length c0_1,.slice A0_2 l0_2.length c0_2] 44 (0,0)) (by (with_reducible repeat (first|refine blk_drewN ?_ _|refine blk_drew ?_|refine blk_alloc ?_ _));exact BK138.out) hb);have n1_:=Aside0.mk (below_step (by repeat (first|(with_reducible first|exact HB.out|apply below_alloc|apply pw_below_drewN|apply below_drew1|refine below_set ?_ GE138.out)|exact HB.out)) hb);have n2_:=Aside0.mk (hbox);have n3_:=Aside0.mk ((by rw [hg];exact (below_size (by repeat (first|(with_reducible first|exact HB.out|apply below_alloc|apply pw_below_drewN|apply below_drew1|refine below_set ?_ GE138.out)|exact HB.out))):w.heap.size≤gb139));have n4_:=Aside0.mk ((by rw [hg];exact (below_size (by repeat (first|(with_reducible first|exact HB.out|apply below_alloc|apply pw_below_drewN|apply below_drew1|refine below_set ?_ GE138.out)|exact HB.out))):w.heap.size≤gb139));have n5_:=Aside0.mk ((by rw [hg];exact Nat.ne_of_lt (blk_lt (g:=gb138) (o:=.cells #[.string a0_0,.slice A0_1 l0_1.length c0_1,.slice A0_2 l0_2.length c0_2] 44 (0,0)) (by (with_reducible repeat (first|refine blk_drewN ?_ _|refine blk_drew ?_|refine blk_alloc ?_ _));exact BK138.out)):gb138≠gb139));have n6_:=Aside0.mk ((by rw [hg];exact Nat.ne_of_gt (blk_lt (g:=gb138) (o:=.cells #[.string a0_0,.slice A0_1 l0_1.length c0_1,.slice A0_2 l0_2.length c0_2] 44 (0,0)) (by (with_reducible repeat (first|refine blk_drewN ?_ _|refine blk_drew ?_|refine blk_alloc ?_ _));exact BK138.out)):gb139≠gb138));clear BK138;clear HB;have BK138:=n0_;have HB:=n1_;have BK139:=n2_;have GW139:=n3_;have GE139:=n4_;have NB138_139:=n5_;have NB139_138:=n6_;clear n0_ n1_ n2_ n3_ n4_ n5_ n6_;clear hb hbox hg))
  repeat (go_quiet (first|((with_reducible refine gate_dst (N:=2) rfl ?_);refine box_event ?hg (N:=2) ?hd (cs:=#[.string a0_0,.slice A0_1 l0_1.length c0_1,.slice A0_2 l0_2.length c0_2]) (t:=44) ?hr ?_;(case hd=>rfl);(case hg=>rfl);(case hr=>first|(go_simp;done)|(go_simp;rfl));intro gb138 hg w3 hbox hb;have n0_:=Aside0.mk (below_step (by repeat (first|(with_reducible first|exact HB.out|apply below_alloc|apply pw_below_drewN|apply below_drew1)|exact HB.out)) hb);have n1_:=Aside0.mk (hbox);have n2_:=Aside0.mk ((by rw [hg];exact (below_size (by repeat (first|(with_reducible first|exact HB.out|apply below_alloc|apply pw_below_drewN|apply below_drew1)|exact HB.out))):w.heap.size≤gb138));have n3_:=Aside0.mk ((by rw [hg];exact (below_size (by repeat (first|(with_reducible first|exact HB.out|apply below_alloc|apply pw_below_drewN|apply below_drew1)|exact HB.out))):w.heap.size≤gb138));clear HB;have HB:=n0_;have BK138:=n1_;have GW138:=n2_;have GE138:=n3_;clear n0_ n1_ n2_ n3_;clear hb hbox hg)|((with_reducible refine gate_dst (N:=3) rfl ?_);refine box_event ?hg (N:=3) ?hd (cs:=#[.string a1_0,.string a1_1]) (t:=30) ?hr ?_;(case hd=>rfl);(case hg=>rfl);(case hr=>first|(go_simp;done)|(go_simp;rfl));intro gb139 hg w4 hbox hb;have n0_:=Aside0.mk (blk_below (g:=gb138) (o:=.cells #[.string a0_0,.slice A0_1 l0_1.length c0_1,.slice A0_2 l0_2.length c0_2] 44 (0,0)) (by (with_reducible repeat (first|refine blk_drewN ?_ _|refine blk_drew ?_|refine blk_alloc ?_ _));exact BK138.out) hb);have n1_:=Aside0.mk (below_step (by repeat (first|(with_reducible first|exact HB.out|apply below_alloc|apply pw_below_drewN|apply below_drew1|refine below_set ?_ GE138.out)|exact HB.out)) hb);have n2_:=Aside0.mk (hbox);have n3_:=Aside0.mk ((by rw [hg];exact (below_size (by repeat (first|(with_reducible first|exact HB.out|apply below_alloc|apply pw_below_drewN|apply below_drew1|refine below_set ?_ GE138.out)|exact HB.out))):w.heap.size≤gb139));have n4_:=Aside0.mk ((by rw [hg];exact (below_size (by repeat (first|(with_reducible first|exact HB.out|apply below_alloc|apply pw_below_drewN|apply below_drew1|refine below_set ?_ GE138.out)|exact HB.out))):w.heap.size≤gb139));have n5_:=Aside0.mk ((by rw [hg];exact Nat.ne_of_lt (blk_lt (g:=gb138) (o:=.cells #[.string a0_0,.slice A0_1 l0_1.length c0_1,.slice A0_2 l0_2.length c0_2] 44 (0,0)) (by (with_reducible repeat (first|refine blk_drewN ?_ _|refine blk_drew ?_|refine blk_alloc ?_ _));exact BK138.out)):gb138≠gb139));have n6_:=Aside0.mk ((by rw [hg];exact Nat.ne_of_gt (blk_lt (g:=gb138) (o:=.cells #[.string a0_0,.slice A0_1 l0_1.length c0_1,.slice A0_2 l0_2.length c0_2] 44 (0,0)) (by (with_reducible repeat (first|refine blk_drewN ?_ _|refine blk_drew ?_|refine blk_alloc ?_ _));exact BK138.out)):gb139≠gb138));clear BK138;clear HB;have BK138:=n0_;have HB:=n1_;have BK139:=n2_;have GW139:=n3_;have GE139:=n4_;have NB138_139:=n5_;have NB139_138:=n6_;clear n0_ n1_ n2_ n3_ n4_ n5_ n6_;clear hb hbox hg));try go_wp2_with (first|((with_reducible refine gate_dst (N:=2) rfl ?_);refine box_event ?hg (N:=2) ?hd (cs:=#[.string a0_0,.slice A0_1 l0_1.length c0_1,.slice A0_2 l0_2.length c0_2]) (t:=44) ?hr ?_;(case hd=>rfl);(case hg=>rfl);(case hr=>first|(go_simp;done)|(go_simp;rfl));intro gb138 hg w3 hbox hb;have n0_:=Aside0.mk (below_step (by repeat (first|(with_reducible first|exact HB.out|apply below_alloc|apply pw_below_drewN|apply below_drew1)|exact HB.out)) hb);have n1_:=Aside0.mk (hbox);have n2_:=Aside0.mk ((by rw [hg];exact (below_size (by repeat (first|(with_reducible first|exact HB.out|apply below_alloc|apply pw_below_drewN|apply below_drew1)|exact HB.out))):w.heap.size≤gb138));have n3_:=Aside0.mk ((by rw [hg];exact (below_size (by repeat (first|(with_reducible first|exact HB.out|apply below_alloc|apply pw_below_drewN|apply below_drew1)|exact HB.out))):w.heap.size≤gb138));clear HB;have HB:=n0_;have BK138:=n1_;have GW138:=n2_;have GE138:=n3_;clear n0_ n1_ n2_ n3_;clear hb hbox hg)|((with_reducible refine gate_dst (N:=3) rfl ?_);refine box_event ?hg (N:=3) ?hd (cs:=#[.string a1_0,.string a1_1]) (t:=30) ?hr ?_;(case hd=>rfl);(case hg=>rfl);(case hr=>first|(go_simp;done)|(go_simp;rfl));intro gb139 hg w4 hbox hb;have n0_:=Aside0.mk (blk_below (g:=gb138) (o:=.cells #[.string a0_0,.slice A0_1 l0_1.length c0_1,.slice A0_2 l0_2.length c0_2] 44 (0,0)) (by (with_reducible repeat (first|refine blk_drewN ?_ _|refine blk_drew ?_|refine blk_alloc ?_ _));exact BK138.out) hb);have n1_:=Aside0.mk (below_step (by repeat (first|(with_reducible first|exact HB.out|apply below_alloc|apply pw_below_drewN|apply below_drew1|refine below_set ?_ GE138.out)|exact HB.out)) hb);have n2_:=Aside0.mk (hbox);have n3_:=Aside0.mk ((by rw [hg];exact (below_size (by repeat (first|(with_reducible first|exact HB.out|apply below_alloc|apply pw_below_drewN|apply below_drew1|refine below_set ?_ GE138.out)|exact HB.out))):w.heap.size≤gb139));have n4_:=Aside0.mk ((by rw [hg];exact (below_size (by repeat (first|(with_reducible first|exact HB.out|apply below_alloc|apply pw_below_drewN|apply below_drew1|refine below_set ?_ GE138.out)|exact HB.out))):w.heap.size≤gb139));have n5_:=Aside0.mk ((by rw [hg];exact Nat.ne_of_lt (blk_lt (g:=gb138) (o:=.cells #[.string a0_0,.slice A0_1 l0_1.length c0_1,.slice A0_2 l0_2.length c0_2] 44 (0,0)) (by (with_reducible repeat (first|refine blk_drewN ?_ _|refine blk_drew ?_|refine blk_alloc ?_ _));exact BK138.out)):gb138≠gb139));have n6_:=Aside0.mk ((by rw [hg];exact Nat.ne_of_gt (blk_lt (g:=gb138) (o:=.cells #[.string a0_0,.slice A0_1 l0_1.length c0_1,.slice A0_2 l0_2.length c0_2] 44 (0,0)) (by (with_reducible repeat (first|refine blk_drewN ?_ _|refine blk_drew ?_|refine blk_alloc ?_ _));exact BK138.out)):gb139≠gb138));clear BK138;clear HB;have BK138:=n0_;have HB:=n1_;have BK139:=n2_;have GW139:=n3_;have GE139:=n4_;have NB138_139:=n5_;have NB139_138:=n6_;clear n0_ n1_ n2_ n3_ n4_ n5_ n6_;clear hb hbox hg)))
  go_loopg [5] k (fun kq v5 w'=>∃ (x5_1:Int),v5=.int .i64 x5_1∧Aside0 (spec_l3Own.l0 kq x5_1 a0_0 l0_1 l0_2 a1_0 a1_1=some r)∧Aside0 (kq≤k)∧Aside0 (w'.heap[gb138]?=some (.cells #[.string a0_0,(.slice A0_1 l0_1.length c0_1),(.slice A0_2 l0_2.length c0_2)] 44 (0,0)))∧Aside0 (w'.heap[gb139]?=some (.cells #[.string a1_0,.string a1_1] 30 (0,0)))∧Aside0 (Below w.heap.size w w'))
  case atStart=>exact ⟨(0),(by first|rfl|(simp;done)|(simp [*];done)),H',⟨Nat.le_refl _⟩,⟨by (with_reducible repeat (first|refine blk_drewN ?_ _|refine blk_drew ?_|refine blk_alloc ?_ _));exact BK138.out⟩,⟨by (with_reducible repeat (first|refine blk_drewN ?_ _|refine blk_drew ?_|refine blk_alloc ?_ _));exact BK139.out⟩,⟨by repeat (first|(with_reducible first|exact HB.out|apply below_alloc|apply pw_below_drewN|apply below_drew1|refine below_set ?_ GE138.out|refine below_set ?_ GE139.out)|exact HB.out)⟩⟩
  case round =>
    clear H'
    try clear p2
    obtain ⟨x5_1,rfl,HA,HK1,BK138,BK139,HB⟩:=hrel
    cases gk with
    | zero=>exact absurd HA.out (by simp [spec_l3Own.l0])
    | succ k1 =>
      have H:=HA.out
      clear HA
      simp only [spec_l3Own.l0] at H
      by_cases c5:x5_1 < (l0_1.length:Int)
      · rw [if_pos c5] at H
        have c5b0:decide (x5_1 < (l0_1.length:Int))=true:=decide_eq_true c5
        clear c5
        by_cases c6:0≤x5_1
        · rw [if_pos c6] at H
          have c6b0:decide (0≤x5_1)=true:=decide_eq_true c6
          clear c6
          by_cases c7:(rdOf ByteArray.empty l0_1 x5_1).toList=a1_1.toList
          · rw [if_pos c7] at H
            have c7b0:((rdOf ByteArray.empty l0_1 x5_1).toList==a1_1.toList)=true:=beq_iff_eq.mpr c7
            have c7b1:((rdOf ByteArray.empty l0_1 x5_1).toList != a1_1.toList)=false:=bne_eq_false_iff_eq.mpr c7
            clear c7
            obtain rfl:=Option.some.inj H
            have hnb8:=NB138_139.out
            have hnc8:=NB139_138.out
            have hcz9_0:wr.cell? ⟨gb138,0,none⟩=some (.string a0_0):=(blk_cell BK138.out 0).trans rfl
            have hcz9_1:wr.cell? ⟨gb138,1,none⟩=some (.slice A0_1 l0_1.length c0_1):=(blk_cell BK138.out 1).trans rfl
            have hcz9_2:wr.cell? ⟨gb138,2,none⟩=some (.slice A0_2 l0_2.length c0_2):=(blk_cell BK138.out 2).trans rfl
            have hfz9_0:=blk_frozen BK138.out 0
            have hfz9_1:=blk_frozen BK138.out 1
            have hfz9_2:=blk_frozen BK138.out 2
            have p140:0≤(x5_1:Int):=of_decide_eq_true (by first|(with_reducible assumption)|assumption)
            have q140:x5_1 < (l0_1.length:Int):=of_decide_eq_true (by first|(with_reducible assumption)|assumption)
            obtain ⟨ad140,e140,hx140_0⟩:=Kd.at_string HR0_1.out x5_1 p140 q140
            cases e140
            replace hx140_0:=(HB.out.cell (World.block_lt_of_cell? w _ hx140_0)).trans hx140_0
            replace p140:=eq_true p140
            replace q140:=eq_true q140
            have hcz10_0:wr.cell? ⟨gb139,0,none⟩=some (.string a1_0):=(blk_cell BK139.out 0).trans rfl
            have hcz10_1:wr.cell? ⟨gb139,1,none⟩=some (.string a1_1):=(blk_cell BK139.out 1).trans rfl
            have hfz10_0:=blk_frozen BK139.out 0
            have hfz10_1:=blk_frozen BK139.out 1
            go_wp2
            repeat (go_quiet (fail);try go_wp2)
            go_ret
            exact ⟨by first|rfl|(simp [errW_none,errW_some]<;>rfl)|(simp [*,errW_none,errW_some]<;>rfl),by repeat (first|(with_reducible first|exact HB.out|apply below_alloc|apply pw_below_drewN|apply below_drew1|refine below_set ?_ GE138.out|refine below_set ?_ GE139.out)|exact HB.out)⟩
          · rw [if_neg c7] at H
            have c7b0:((rdOf ByteArray.empty l0_1 x5_1).toList==a1_1.toList)=false:=beq_eq_false_iff_ne.mpr c7
            have c7b1:((rdOf ByteArray.empty l0_1 x5_1).toList != a1_1.toList)=true:=bne_iff_ne.mpr c7
            have H':=Aside0.mk H
            clear H
            have hnb11:=NB138_139.out
            have hnc11:=NB139_138.out
            have hcz12_0:wr.cell? ⟨gb138,0,none⟩=some (.string a0_0):=(blk_cell BK138.out 0).trans rfl
            have hcz12_1:wr.cell? ⟨gb138,1,none⟩=some (.slice A0_1 l0_1.length c0_1):=(blk_cell BK138.out 1).trans rfl
            have hcz12_2:wr.cell? ⟨gb138,2,none⟩=some (.slice A0_2 l0_2.length c0_2):=(blk_cell BK138.out 2).trans rfl
            have hfz12_0:=blk_frozen BK138.out 0
            have hfz12_1:=blk_frozen BK138.out 1
            have hfz12_2:=blk_frozen BK138.out 2
            have p140:0≤(x5_1:Int):=of_decide_eq_true (by first|(with_reducible assumption)|assumption)
            have q140:x5_1 < (l0_1.length:Int):=of_decide_eq_true (by first|(with_reducible assumption)|assumption)
            obtain ⟨ad140,e140,hx140_0⟩:=Kd.at_string HR0_1.out x5_1 p140 q140
            cases e140
            replace hx140_0:=(HB.out.cell (World.block_lt_of_cell? w _ hx140_0)).trans hx140_0
            replace p140:=eq_true p140
            replace q140:=eq_true q140
            have hcz13_0:wr.cell? ⟨gb139,0,none⟩=some (.string a1_0):=(blk_cell BK139.out 0).trans rfl
            have hcz13_1:wr.cell? ⟨gb139,1,none⟩=some (.string a1_1):=(blk_cell BK139.out 1).trans rfl
            have hfz13_0:=blk_frozen BK139.out 0
            have hfz13_1:=blk_frozen BK139.out 1
            go_wp2
            repeat (go_quiet (fail);try go_wp2)
            go_roundg k1
            case measure=>have:=HK1.out;omega
            case rel=>exact ⟨(wrap64 (x5_1+1)),(by first|rfl|(simp;done)|(simp [*];done)),H',⟨by have:=HK1.out;omega⟩,⟨by (with_reducible repeat (first|refine blk_drewN ?_ _|refine blk_drew ?_|refine blk_alloc ?_ _));exact BK138.out⟩,⟨by (with_reducible repeat (first|refine blk_drewN ?_ _|refine blk_drew ?_|refine blk_alloc ?_ _));exact BK139.out⟩,⟨by repeat (first|(with_reducible first|exact HB.out|apply below_alloc|apply pw_below_drewN|apply below_drew1|refine below_set ?_ GE138.out|refine below_set ?_ GE139.out)|exact HB.out)⟩⟩
        · rw [if_neg c6] at H
          exact absurd H (by simp)
      · rw [if_neg c5] at H
        have c5b0:decide (x5_1 < (l0_1.length:Int))=false:=decide_eq_false c5
        clear c5
        obtain rfl:=Option.some.inj H
        have hnb14:=NB138_139.out
        have hnc14:=NB139_138.out
        have hcz15_0:wr.cell? ⟨gb138,0,none⟩=some (.string a0_0):=(blk_cell BK138.out 0).trans rfl
        have hcz15_1:wr.cell? ⟨gb138,1,none⟩=some (.slice A0_1 l0_1.length c0_1):=(blk_cell BK138.out 1).trans rfl
        have hcz15_2:wr.cell? ⟨gb138,2,none⟩=some (.slice A0_2 l0_2.length c0_2):=(blk_cell BK138.out 2).trans rfl
        have hfz15_0:=blk_frozen BK138.out 0
        have hfz15_1:=blk_frozen BK138.out 1
        have hfz15_2:=blk_frozen BK138.out 2
        go_wp2
        repeat (go_quiet (fail);try go_wp2)
        go_ret
        exact ⟨by first|rfl|(simp [errW_none,errW_some]<;>rfl)|(simp [*,errW_none,errW_some]<;>rfl),by repeat (first|(with_reducible first|exact HB.out|apply below_alloc|apply pw_below_drewN|apply below_drew1|refine below_set ?_ GE138.out|refine below_set ?_ GE139.out)|exact HB.out)⟩
def spec_l1Ends.f (a0:ByteArray) (a1:ByteArray):Option (Bool):=if a0.toList=a1.toList then (some true) else (if (wrap64 ((a0.size:Int) - (a1.size:Int))) > 0 then (if 0≤(wrap64 ((a0.size:Int) - (a1.size:Int))) then (if (wrap64 ((a0.size:Int) - (a1.size:Int)))≤(a0.size:Int) then (if (a0.extract ((wrap64 ((a0.size:Int) - (a1.size:Int))):Int).toNat a0.size).toList=a1.toList then (if 0≤(wrap64 ((wrap64 ((a0.size:Int) - (a1.size:Int))) - 1)) then (if (wrap64 ((wrap64 ((a0.size:Int) - (a1.size:Int))) - 1)) < (a0.size:Int) then (some ((bt a0 (wrap64 ((wrap64 ((a0.size:Int) - (a1.size:Int))) - 1)))==46)) else (none)) else (none)) else (some false)) else (none)) else (none)) else (some false))
set_option maxHeartbeats 8000000 in
set_option maxRecDepth 100000 in
theorem spec_l1Ends.calls (a0:ByteArray) (a1:ByteArray) (r:Bool) (w:World) (h:spec_l1Ends.f a0 a1=some r) :
    Calls Tryd.prog 102 #[.string a0,.string a1] w fun e w'=>e=.returned (.bool r)∧Drawn0 w w':=by
  have H:(if a0.toList=a1.toList then (some true) else (if (wrap64 ((a0.size:Int) - (a1.size:Int))) > 0 then (if 0≤(wrap64 ((a0.size:Int) - (a1.size:Int))) then (if (wrap64 ((a0.size:Int) - (a1.size:Int)))≤(a0.size:Int) then (if (a0.extract ((wrap64 ((a0.size:Int) - (a1.size:Int))):Int).toNat a0.size).toList=a1.toList then (if 0≤(wrap64 ((wrap64 ((a0.size:Int) - (a1.size:Int))) - 1)) then (if (wrap64 ((wrap64 ((a0.size:Int) - (a1.size:Int))) - 1)) < (a0.size:Int) then (some ((bt a0 (wrap64 ((wrap64 ((a0.size:Int) - (a1.size:Int))) - 1)))==46)) else (none)) else (none)) else (some false)) else (none)) else (none)) else (some false)))=some r:=h
  clear h
  by_cases c3:a0.toList=a1.toList
  · rw [if_pos c3] at H
    have c3b0:(a0.toList==a1.toList)=true:=beq_iff_eq.mpr c3
    have c3b1:(a0.toList != a1.toList)=false:=bne_eq_false_iff_eq.mpr c3
    clear c3
    obtain rfl:=Option.some.inj H
    go_enter Tryd.func102,Tryd.ntmps102
    go_wp2
    go_ret
    exact ⟨by first|rfl|(simp;done)|(simp [*];done),by repeat (first|exact Drawn0.refl _|apply Drawn0.step)⟩
  · rw [if_neg c3] at H
    have c3b0:(a0.toList==a1.toList)=false:=beq_eq_false_iff_ne.mpr c3
    have c3b1:(a0.toList != a1.toList)=true:=bne_iff_ne.mpr c3
    by_cases c4:(wrap64 ((a0.size:Int) - (a1.size:Int))) > 0
    · rw [if_pos c4] at H
      have c4b0:decide (0 < (wrap64 ((a0.size:Int) - (a1.size:Int))))=true:=decide_eq_true c4
      clear c4
      obtain ⟨ji5,hji5⟩:∃ j_:Int,(wrap64 ((a0.size:Int) - (a1.size:Int)))=j_:=⟨_,rfl⟩
      replace H:(if 0≤(ji5) then (if (ji5)≤(a0.size:Int) then (if (a0.extract ((ji5):Int).toNat a0.size).toList=a1.toList then (if 0≤(wrap64 ((ji5) - 1)) then (if (wrap64 ((ji5) - 1)) < (a0.size:Int) then (some ((bt a0 (wrap64 ((ji5) - 1)))==46)) else (none)) else (none)) else (some false)) else (none)) else (none))=some r:=by first|(rw [hji5] at H;exact H)|(simp only [hji5] at H ⊢;exact H)
      (try rw [hji5] at c4b0)
      have hji5w:(IntKind.i64.wrap ((a0.size:Int) - (a1.size:Int)))=ji5:=(i64_w _).trans hji5
      by_cases c6:0≤(ji5)
      · rw [if_pos c6] at H
        have c6b0:=eq_true c6
        have c6b1:decide (0≤(ji5))=true:=decide_eq_true c6
        clear c6
        by_cases c7:(ji5)≤(a0.size:Int)
        · rw [if_pos c7] at H
          have c7b0:=eq_true c7
          have c7b1:decide ((ji5)≤(a0.size:Int))=true:=decide_eq_true c7
          clear c7
          by_cases c8:(a0.extract ((ji5):Int).toNat a0.size).toList=a1.toList
          · rw [if_pos c8] at H
            have c8b0:((a0.extract ((ji5):Int).toNat a0.size).toList==a1.toList)=true:=beq_iff_eq.mpr c8
            have c8b1:((a0.extract ((ji5):Int).toNat a0.size).toList != a1.toList)=false:=bne_eq_false_iff_eq.mpr c8
            clear c8
            obtain ⟨ji9,hji9⟩:∃ j_:Int,(wrap64 ((ji5) - 1))=j_:=⟨_,rfl⟩
            replace H:(if 0≤(ji9) then (if (ji9) < (a0.size:Int) then (some ((bt a0 (ji9))==46)) else (none)) else (none))=some r:=by first|(rw [hji9] at H;exact H)|(simp only [hji9] at H ⊢;exact H)
            have hji9w:(IntKind.i64.wrap ((ji5) - 1))=ji9:=(i64_w _).trans hji9
            by_cases c10:0≤(ji9)
            · rw [if_pos c10] at H
              have c10b0:decide (0≤(ji9))=true:=decide_eq_true c10
              clear c10
              by_cases c11:(ji9) < (a0.size:Int)
              · rw [if_pos c11] at H
                have c11b0:decide ((ji9) < (a0.size:Int))=true:=decide_eq_true c11
                clear c11
                obtain rfl:=Option.some.inj H
                have p12:0≤((ji9):Int):=of_decide_eq_true (by first|(with_reducible assumption)|assumption)
                have q12:(ji9) < (a0.size:Int):=of_decide_eq_true (by first|(with_reducible assumption)|assumption)
                have hx12:=bt_at a0 (ji9)
                replace p12:=eq_true p12
                replace q12:=eq_true q12
                go_enter Tryd.func102,Tryd.ntmps102
                go_wp2
                go_ret
                exact ⟨by first|rfl|(simp;done)|(simp only [← hji5,← hji9]<;>(first|rfl|simp))|(simp [*];done),by repeat (first|exact Drawn0.refl _|apply Drawn0.step)⟩
              · rw [if_neg c11] at H
                exact absurd H (by simp)
            · rw [if_neg c10] at H
              exact absurd H (by simp)
          · rw [if_neg c8] at H
            have c8b0:((a0.extract ((ji5):Int).toNat a0.size).toList==a1.toList)=false:=beq_eq_false_iff_ne.mpr c8
            have c8b1:((a0.extract ((ji5):Int).toNat a0.size).toList != a1.toList)=true:=bne_iff_ne.mpr c8
            obtain rfl:=Option.some.inj H
            go_enter Tryd.func102,Tryd.ntmps102
            go_wp2
            go_ret
            exact ⟨by first|rfl|(simp;done)|(simp only [← hji5]<;>(first|rfl|simp))|(simp [*];done),by repeat (first|exact Drawn0.refl _|apply Drawn0.step)⟩
        · rw [if_neg c7] at H
          exact absurd H (by simp)
      · rw [if_neg c6] at H
        exact absurd H (by simp)
    · rw [if_neg c4] at H
      have c4b0:decide (0 < (wrap64 ((a0.size:Int) - (a1.size:Int))))=false:=decide_eq_false c4
      clear c4
      obtain rfl:=Option.some.inj H
      go_enter Tryd.func102,Tryd.ntmps102
      go_wp2
      go_ret
      exact ⟨by first|rfl|(simp;done)|(simp [*];done),by repeat (first|exact Drawn0.refl _|apply Drawn0.step)⟩
def spec_l3Way.l0:Nat→ByteArray→ByteArray→ByteArray→Int→ByteArray→List ByteArray→List (S117)→Option (ByteArray)
  | 0,_,_,_,_,_,_,_=>none
  | k+1,x1,x5,x6,x7,x139000,x139001,x139002=>if x7 < (x139002.length:Int) then (if 0≤x7 then ((spec_l1Ends.f x1 ((rd_T117 x139002 x7).f0)).bind fun t141=>(if t141=true then (if (((rd_T117 x139002 x7).f0).size:Int) > (x5.size:Int) then (spec_l3Way.l0 k x1 ((rd_T117 x139002 x7).f0) ((rd_T117 x139002 x7).f1) (wrap64 (x7+1)) x139000 x139001 x139002) else (spec_l3Way.l0 k x1 x5 x6 (wrap64 (x7+1)) x139000 x139001 x139002)) else (spec_l3Way.l0 k x1 x5 x6 (wrap64 (x7+1)) x139000 x139001 x139002))) else (none)) else (some x6)
def spec_l3Way.f (k:Nat) (a0_0:ByteArray) (l0_1:List ByteArray) (l0_2:List (S117)) (a1:ByteArray):Option (ByteArray):=spec_l3Way.l0 k a1 (⟨#[]⟩:ByteArray) (⟨#[]⟩:ByteArray) 0 a0_0 l0_1 l0_2
set_option maxHeartbeats 8000000 in
set_option maxRecDepth 100000 in
theorem spec_l3Way.calls (k:Nat) (a0_0:ByteArray) (A0_1:Option Addr) (c0_1:Nat) (l0_1:List ByteArray) (A0_2:Option Addr) (c0_2:Nat) (l0_2:List (S117)) (a1:ByteArray) (r:ByteArray) (w:World) (hr0_1:Kd.C Kd.string w A0_1 l0_1.length l0_1) (hc0_1:l0_1.length≤c0_1) (hr0_2:Kd.C k117 w A0_2 l0_2.length l0_2) (hc0_2:l0_2.length≤c0_2) (h:spec_l3Way.f k a0_0 l0_1 l0_2 a1=some r) :
    Calls Tryd.prog 60 #[.agg #[.string a0_0,.slice A0_1 l0_1.length c0_1,.slice A0_2 l0_2.length c0_2],.string a1] w fun e w'=>e=.returned (.string r)∧Below w.heap.size w w':=by
  have hu44:=Tryd.underlying44
  have hu117:=Tryd.underlying117
  have HR0_1:=Aside0.mk hr0_1
  have HC0_1:=Aside0.mk hc0_1
  clear hr0_1 hc0_1
  have HR0_2:=Aside0.mk hr0_2
  have HC0_2:=Aside0.mk hc0_2
  clear hr0_2 hc0_2
  have HB:=Aside0.mk (Below.refl w.heap.size w)
  have H:(spec_l3Way.l0 k a1 (⟨#[]⟩:ByteArray) (⟨#[]⟩:ByteArray) 0 a0_0 l0_1 l0_2)=some r:=h
  clear h
  have H':=Aside0.mk H
  clear H
  go_enter Tryd.func60,Tryd.ntmps60
  go_wp2_with (first|((with_reducible refine gate_dst (N:=2) rfl ?_);(try (refine gate_guard (by rfl) ?_;dsimp only));refine box_event ?hg (N:=2) ?hd (cs:=#[.string a0_0,.slice A0_1 l0_1.length c0_1,.slice A0_2 l0_2.length c0_2]) (t:=44) ?hr ?_;(case hd=>rfl);(case hg=>rfl);(case hr=>first|(go_simp;done)|(go_simp;rfl));intro gb138 hg w3 hbox hb;have n0_:=Aside0.mk (below_step (by repeat (first|(with_reducible first|exact HB.out|apply below_alloc|apply pw_below_drewN|apply below_drew1)|exact HB.out)) hb);have n1_:=Aside0.mk (hbox);have n2_:=Aside0.mk ((by rw [hg];exact (below_size (by repeat (first|(with_reducible first|exact HB.out|apply below_alloc|apply pw_below_drewN|apply below_drew1)|exact HB.out))):w.heap.size≤gb138));have n3_:=Aside0.mk ((by rw [hg];exact (below_size (by repeat (first|(with_reducible first|exact HB.out|apply below_alloc|apply pw_below_drewN|apply below_drew1)|exact HB.out))):w.heap.size≤gb138));clear HB;have HB:=n0_;have BK138:=n1_;have GW138:=n2_;have GE138:=n3_;clear n0_ n1_ n2_ n3_;clear hb hbox hg))
  go_loopg [5,6,7] k (fun kq v5 v6 v7 w'=>∃ (x5_1:ByteArray) (x6_1:ByteArray) (x7_1:Int),v5=.string x5_1∧v6=.string x6_1∧v7=.int .i64 x7_1∧Aside0 (spec_l3Way.l0 kq a1 x5_1 x6_1 x7_1 a0_0 l0_1 l0_2=some r)∧Aside0 (kq≤k)∧Aside0 (w'.heap[gb138]?=some (.cells #[.string a0_0,(.slice A0_1 l0_1.length c0_1),(.slice A0_2 l0_2.length c0_2)] 44 (0,0)))∧Aside0 (Below w.heap.size w w'))
  case atStart=>exact ⟨((⟨#[]⟩:ByteArray)),((⟨#[]⟩:ByteArray)),(0),(by first|rfl|(simp;done)|(simp [*];done)),(by first|rfl|(simp;done)|(simp [*];done)),(by first|rfl|(simp;done)|(simp [*];done)),H',⟨Nat.le_refl _⟩,⟨by (with_reducible repeat (first|refine blk_drewN ?_ _|refine blk_drew ?_|refine blk_alloc ?_ _));exact BK138.out⟩,⟨by repeat (first|(with_reducible first|exact HB.out|apply below_alloc|apply pw_below_drewN|apply below_drew1|refine below_set ?_ GE138.out)|exact HB.out)⟩⟩
  case round =>
    clear H'
    try clear p2
    obtain ⟨x5_1,x6_1,x7_1,rfl,rfl,rfl,HA,HK1,BK138,HB⟩:=hrel
    cases gk with
    | zero=>exact absurd HA.out (by simp [spec_l3Way.l0])
    | succ k1 =>
      have H:=HA.out
      clear HA
      simp only [spec_l3Way.l0] at H
      by_cases c4:x7_1 < (l0_2.length:Int)
      · rw [if_pos c4] at H
        have c4b0:decide (x7_1 < (l0_2.length:Int))=true:=decide_eq_true c4
        clear c4
        by_cases c5:0≤x7_1
        · rw [if_pos c5] at H
          have c5b0:decide (0≤x7_1)=true:=decide_eq_true c5
          clear c5
          replace H:=Option.bind_eq_some_iff.mp H
          obtain ⟨t141,A60,H⟩:=H
          replace H:(if t141=true then (if (((rd_T117 l0_2 x7_1).f0).size:Int) > (x5_1.size:Int) then (spec_l3Way.l0 k1 a1 ((rd_T117 l0_2 x7_1).f0) ((rd_T117 l0_2 x7_1).f1) (wrap64 (x7_1+1)) a0_0 l0_1 l0_2) else (spec_l3Way.l0 k1 a1 x5_1 x6_1 (wrap64 (x7_1+1)) a0_0 l0_1 l0_2)) else (spec_l3Way.l0 k1 a1 x5_1 x6_1 (wrap64 (x7_1+1)) a0_0 l0_1 l0_2))=some r:=H
          have A6:=Aside0.mk A60
          clear A60
          by_cases c7:t141=true
          · subst c7
            have H1:(if (((rd_T117 l0_2 x7_1).f0).size:Int) > (x5_1.size:Int) then (spec_l3Way.l0 k1 a1 ((rd_T117 l0_2 x7_1).f0) ((rd_T117 l0_2 x7_1).f1) (wrap64 (x7_1+1)) a0_0 l0_1 l0_2) else (spec_l3Way.l0 k1 a1 x5_1 x6_1 (wrap64 (x7_1+1)) a0_0 l0_1 l0_2))=some r:=by rw [if_pos rfl] at H;exact H
            clear H
            have H:=H1
            clear H1
            by_cases c8:(((rd_T117 l0_2 x7_1).f0).size:Int) > (x5_1.size:Int)
            · rw [if_pos c8] at H
              have c8b0:decide ((x5_1.size:Int) < (((rd_T117 l0_2 x7_1).f0).size:Int))=true:=decide_eq_true c8
              have c8b1:decide (x5_1.size < ((rd_T117 l0_2 x7_1).f0).size)=true:=decide_eq_true (Int.ofNat_lt.mp c8)
              clear c8
              have H':=Aside0.mk H
              clear H
              have hcz9_0:wr.cell? ⟨gb138,0,none⟩=some (.string a0_0):=(blk_cell BK138.out 0).trans rfl
              have hcz9_1:wr.cell? ⟨gb138,1,none⟩=some (.slice A0_1 l0_1.length c0_1):=(blk_cell BK138.out 1).trans rfl
              have hcz9_2:wr.cell? ⟨gb138,2,none⟩=some (.slice A0_2 l0_2.length c0_2):=(blk_cell BK138.out 2).trans rfl
              have hfz9_0:=blk_frozen BK138.out 0
              have hfz9_1:=blk_frozen BK138.out 1
              have hfz9_2:=blk_frozen BK138.out 2
              have p139:0≤(x7_1:Int):=of_decide_eq_true (by first|(with_reducible assumption)|assumption)
              have q139:x7_1 < (l0_2.length:Int):=of_decide_eq_true (by first|(with_reducible assumption)|assumption)
              obtain ⟨ad139,e139,hx139_0,hx139_1⟩:=at_T117 HR0_2.out x7_1 p139 q139
              cases e139
              replace hx139_0:=(HB.out.cell (World.block_lt_of_cell? w _ hx139_0)).trans hx139_0
              replace hx139_1:=(HB.out.cell (World.block_lt_of_cell? w _ hx139_1)).trans hx139_1
              replace p139:=eq_true p139
              replace q139:=eq_true q139
              go_wp2_with (first|((with_reducible refine gate_dst (N:=8) rfl ?_);(try (refine gate_guard (by rfl) ?_;dsimp only));refine box_event ?hg (N:=8) ?hd (cs:=#[.string (⟨#[]⟩:ByteArray),.string (⟨#[]⟩:ByteArray)]) (t:=117) ?hr ?_;(case hd=>rfl);(case hg=>rfl);(case hr=>first|(go_simp;done)|(go_simp;rfl));intro gb140 hg w10 hbox hb;have n0_:=Aside0.mk (blk_below (g:=gb138) (o:=.cells #[.string a0_0,.slice A0_1 l0_1.length c0_1,.slice (some ad139) l0_2.length c0_2] 44 (0,0)) (by (with_reducible repeat (first|refine blk_drewN ?_ _|refine blk_drew ?_|refine blk_alloc ?_ _));exact BK138.out) hb);have n1_:=Aside0.mk (below_step (by repeat (first|(with_reducible first|exact HB.out|apply below_alloc|apply pw_below_drewN|apply below_drew1|refine below_set ?_ GE138.out)|exact HB.out)) hb);have n2_:=Aside0.mk (hbox);have n3_:=Aside0.mk ((by rw [hg];exact (below_size (by repeat (first|(with_reducible first|exact HB.out|apply below_alloc|apply pw_below_drewN|apply below_drew1|refine below_set ?_ GE138.out)|exact HB.out))):w.heap.size≤gb140));have n4_:=Aside0.mk ((by rw [hg];exact (below_size (by repeat (first|(with_reducible first|exact HB.out|apply below_alloc|apply pw_below_drewN|apply below_drew1|refine below_set ?_ GE138.out)|exact HB.out))):w.heap.size≤gb140));have n5_:=Aside0.mk ((by rw [hg];exact Nat.ne_of_lt (blk_lt (g:=gb138) (o:=.cells #[.string a0_0,.slice A0_1 l0_1.length c0_1,.slice (some ad139) l0_2.length c0_2] 44 (0,0)) (by (with_reducible repeat (first|refine blk_drewN ?_ _|refine blk_drew ?_|refine blk_alloc ?_ _));exact BK138.out)):gb138≠gb140));have n6_:=Aside0.mk ((by rw [hg];exact Nat.ne_of_gt (blk_lt (g:=gb138) (o:=.cells #[.string a0_0,.slice A0_1 l0_1.length c0_1,.slice (some ad139) l0_2.length c0_2] 44 (0,0)) (by (with_reducible repeat (first|refine blk_drewN ?_ _|refine blk_drew ?_|refine blk_alloc ?_ _));exact BK138.out)):gb140≠gb138));clear BK138;clear HB;have BK138:=n0_;have HB:=n1_;have BK140:=n2_;have GW140:=n3_;have GE140:=n4_;have NB138_140:=n5_;have NB140_138:=n6_;clear n0_ n1_ n2_ n3_ n4_ n5_ n6_;clear hb hbox hg;have hnb11:=NB140_138.out;have hnc11:=NB138_140.out;have hcz12_0:w10.cell? ⟨gb140,0,none⟩=some (.string (⟨#[]⟩:ByteArray)):=(blk_cell BK140.out 0).trans rfl;have hcz12_1:w10.cell? ⟨gb140,1,none⟩=some (.string (⟨#[]⟩:ByteArray)):=(blk_cell BK140.out 1).trans rfl;have hfz12_0:=blk_frozen BK140.out 0;have hfz12_1:=blk_frozen BK140.out 1)|((with_reducible refine gate_callee (f:=102) rfl ?_);refine goesL_ (some 24) rfl rfl Tryd.func102 (by kernel_rfl) rfl #[.string a1,.string ((rd_T117 l0_2 x7_1).f0)] rfl (by (try simp only [List.map_toArray,List.map_cons,List.map_nil]);first|done|rfl|(simp only [List.length_drop,List.length_take];rfl)) ?_;(with_reducible refine (spec_l1Ends.calls a1 ((rd_T117 l0_2 x7_1).f0) true _ A6.out).mono ?_);rintro e w' ⟨rfl,⟨nd,rfl⟩⟩;refine ⟨_,rfl,?_⟩))
              go_roundg k1
              case measure=>have:=HK1.out;omega
              case rel=>exact ⟨((rd_T117 l0_2 x7_1).f0),((rd_T117 l0_2 x7_1).f1),(wrap64 (x7_1+1)),(by first|rfl|(simp;done)|(simp [*];done)),(by first|rfl|(simp;done)|(simp [*];done)),(by first|rfl|(simp;done)|(simp [*];done)),H',⟨by have:=HK1.out;omega⟩,⟨by (with_reducible repeat (first|refine blk_drewN ?_ _|refine blk_drew ?_|refine blk_alloc ?_ _));refine blk_far ?_ NB138_140.out _;(with_reducible repeat (first|refine blk_drewN ?_ _|refine blk_drew ?_|refine blk_alloc ?_ _));refine blk_far ?_ NB138_140.out _;(with_reducible repeat (first|refine blk_drewN ?_ _|refine blk_drew ?_|refine blk_alloc ?_ _));exact BK138.out⟩,⟨by repeat (first|(with_reducible first|exact HB.out|apply below_alloc|apply pw_below_drewN|apply below_drew1|refine below_set ?_ GE138.out|refine below_set ?_ GE140.out)|exact HB.out)⟩⟩
            · rw [if_neg c8] at H
              have c8b0:decide ((x5_1.size:Int) < (((rd_T117 l0_2 x7_1).f0).size:Int))=false:=decide_eq_false c8
              have c8b1:decide (x5_1.size < ((rd_T117 l0_2 x7_1).f0).size)=false:=decide_eq_false (fun h=>c8 (Int.ofNat_lt.mpr h))
              clear c8
              have H':=Aside0.mk H
              clear H
              have hcz13_0:wr.cell? ⟨gb138,0,none⟩=some (.string a0_0):=(blk_cell BK138.out 0).trans rfl
              have hcz13_1:wr.cell? ⟨gb138,1,none⟩=some (.slice A0_1 l0_1.length c0_1):=(blk_cell BK138.out 1).trans rfl
              have hcz13_2:wr.cell? ⟨gb138,2,none⟩=some (.slice A0_2 l0_2.length c0_2):=(blk_cell BK138.out 2).trans rfl
              have hfz13_0:=blk_frozen BK138.out 0
              have hfz13_1:=blk_frozen BK138.out 1
              have hfz13_2:=blk_frozen BK138.out 2
              have p139:0≤(x7_1:Int):=of_decide_eq_true (by first|(with_reducible assumption)|assumption)
              have q139:x7_1 < (l0_2.length:Int):=of_decide_eq_true (by first|(with_reducible assumption)|assumption)
              obtain ⟨ad139,e139,hx139_0,hx139_1⟩:=at_T117 HR0_2.out x7_1 p139 q139
              cases e139
              replace hx139_0:=(HB.out.cell (World.block_lt_of_cell? w _ hx139_0)).trans hx139_0
              replace hx139_1:=(HB.out.cell (World.block_lt_of_cell? w _ hx139_1)).trans hx139_1
              replace p139:=eq_true p139
              replace q139:=eq_true q139
              go_wp2_with (first|((with_reducible refine gate_dst (N:=8) rfl ?_);(try (refine gate_guard (by rfl) ?_;dsimp only));refine box_event ?hg (N:=8) ?hd (cs:=#[.string (⟨#[]⟩:ByteArray),.string (⟨#[]⟩:ByteArray)]) (t:=117) ?hr ?_;(case hd=>rfl);(case hg=>rfl);(case hr=>first|(go_simp;done)|(go_simp;rfl));intro gb140 hg w14 hbox hb;have n0_:=Aside0.mk (blk_below (g:=gb138) (o:=.cells #[.string a0_0,.slice A0_1 l0_1.length c0_1,.slice (some ad139) l0_2.length c0_2] 44 (0,0)) (by (with_reducible repeat (first|refine blk_drewN ?_ _|refine blk_drew ?_|refine blk_alloc ?_ _));exact BK138.out) hb);have n1_:=Aside0.mk (below_step (by repeat (first|(with_reducible first|exact HB.out|apply below_alloc|apply pw_below_drewN|apply below_drew1|refine below_set ?_ GE138.out)|exact HB.out)) hb);have n2_:=Aside0.mk (hbox);have n3_:=Aside0.mk ((by rw [hg];exact (below_size (by repeat (first|(with_reducible first|exact HB.out|apply below_alloc|apply pw_below_drewN|apply below_drew1|refine below_set ?_ GE138.out)|exact HB.out))):w.heap.size≤gb140));have n4_:=Aside0.mk ((by rw [hg];exact (below_size (by repeat (first|(with_reducible first|exact HB.out|apply below_alloc|apply pw_below_drewN|apply below_drew1|refine below_set ?_ GE138.out)|exact HB.out))):w.heap.size≤gb140));have n5_:=Aside0.mk ((by rw [hg];exact Nat.ne_of_lt (blk_lt (g:=gb138) (o:=.cells #[.string a0_0,.slice A0_1 l0_1.length c0_1,.slice (some ad139) l0_2.length c0_2] 44 (0,0)) (by (with_reducible repeat (first|refine blk_drewN ?_ _|refine blk_drew ?_|refine blk_alloc ?_ _));exact BK138.out)):gb138≠gb140));have n6_:=Aside0.mk ((by rw [hg];exact Nat.ne_of_gt (blk_lt (g:=gb138) (o:=.cells #[.string a0_0,.slice A0_1 l0_1.length c0_1,.slice (some ad139) l0_2.length c0_2] 44 (0,0)) (by (with_reducible repeat (first|refine blk_drewN ?_ _|refine blk_drew ?_|refine blk_alloc ?_ _));exact BK138.out)):gb140≠gb138));clear BK138;clear HB;have BK138:=n0_;have HB:=n1_;have BK140:=n2_;have GW140:=n3_;have GE140:=n4_;have NB138_140:=n5_;have NB140_138:=n6_;clear n0_ n1_ n2_ n3_ n4_ n5_ n6_;clear hb hbox hg;have hnb15:=NB140_138.out;have hnc15:=NB138_140.out;have hcz16_0:w14.cell? ⟨gb140,0,none⟩=some (.string (⟨#[]⟩:ByteArray)):=(blk_cell BK140.out 0).trans rfl;have hcz16_1:w14.cell? ⟨gb140,1,none⟩=some (.string (⟨#[]⟩:ByteArray)):=(blk_cell BK140.out 1).trans rfl;have hfz16_0:=blk_frozen BK140.out 0;have hfz16_1:=blk_frozen BK140.out 1)|((with_reducible refine gate_callee (f:=102) rfl ?_);refine goesL_ (some 24) rfl rfl Tryd.func102 (by kernel_rfl) rfl #[.string a1,.string ((rd_T117 l0_2 x7_1).f0)] rfl (by (try simp only [List.map_toArray,List.map_cons,List.map_nil]);first|done|rfl|(simp only [List.length_drop,List.length_take];rfl)) ?_;(with_reducible refine (spec_l1Ends.calls a1 ((rd_T117 l0_2 x7_1).f0) true _ A6.out).mono ?_);rintro e w' ⟨rfl,⟨nd,rfl⟩⟩;refine ⟨_,rfl,?_⟩))
              go_roundg k1
              case measure=>have:=HK1.out;omega
              case rel=>exact ⟨(x5_1),(x6_1),(wrap64 (x7_1+1)),(by first|rfl|(simp;done)|(simp [*];done)),(by first|rfl|(simp;done)|(simp [*];done)),(by first|rfl|(simp;done)|(simp [*];done)),H',⟨by have:=HK1.out;omega⟩,⟨by (with_reducible repeat (first|refine blk_drewN ?_ _|refine blk_drew ?_|refine blk_alloc ?_ _));refine blk_far ?_ NB138_140.out _;(with_reducible repeat (first|refine blk_drewN ?_ _|refine blk_drew ?_|refine blk_alloc ?_ _));refine blk_far ?_ NB138_140.out _;(with_reducible repeat (first|refine blk_drewN ?_ _|refine blk_drew ?_|refine blk_alloc ?_ _));exact BK138.out⟩,⟨by repeat (first|(with_reducible first|exact HB.out|apply below_alloc|apply pw_below_drewN|apply below_drew1|refine below_set ?_ GE138.out|refine below_set ?_ GE140.out)|exact HB.out)⟩⟩
          · replace c7:=Bool.eq_false_iff.mpr c7
            subst c7
            have H1:(spec_l3Way.l0 k1 a1 x5_1 x6_1 (wrap64 (x7_1+1)) a0_0 l0_1 l0_2)=some r:=by rw [if_neg (show ¬ (false=true) by decide)] at H;exact H
            clear H
            have H:=H1
            clear H1
            have H':=Aside0.mk H
            clear H
            have hcz17_0:wr.cell? ⟨gb138,0,none⟩=some (.string a0_0):=(blk_cell BK138.out 0).trans rfl
            have hcz17_1:wr.cell? ⟨gb138,1,none⟩=some (.slice A0_1 l0_1.length c0_1):=(blk_cell BK138.out 1).trans rfl
            have hcz17_2:wr.cell? ⟨gb138,2,none⟩=some (.slice A0_2 l0_2.length c0_2):=(blk_cell BK138.out 2).trans rfl
            have hfz17_0:=blk_frozen BK138.out 0
            have hfz17_1:=blk_frozen BK138.out 1
            have hfz17_2:=blk_frozen BK138.out 2
            have p139:0≤(x7_1:Int):=of_decide_eq_true (by first|(with_reducible assumption)|assumption)
            have q139:x7_1 < (l0_2.length:Int):=of_decide_eq_true (by first|(with_reducible assumption)|assumption)
            obtain ⟨ad139,e139,hx139_0,hx139_1⟩:=at_T117 HR0_2.out x7_1 p139 q139
            cases e139
            replace hx139_0:=(HB.out.cell (World.block_lt_of_cell? w _ hx139_0)).trans hx139_0
            replace hx139_1:=(HB.out.cell (World.block_lt_of_cell? w _ hx139_1)).trans hx139_1
            replace p139:=eq_true p139
            replace q139:=eq_true q139
            go_wp2_with (first|((with_reducible refine gate_dst (N:=8) rfl ?_);(try (refine gate_guard (by rfl) ?_;dsimp only));refine box_event ?hg (N:=8) ?hd (cs:=#[.string (⟨#[]⟩:ByteArray),.string (⟨#[]⟩:ByteArray)]) (t:=117) ?hr ?_;(case hd=>rfl);(case hg=>rfl);(case hr=>first|(go_simp;done)|(go_simp;rfl));intro gb140 hg w18 hbox hb;have n0_:=Aside0.mk (blk_below (g:=gb138) (o:=.cells #[.string a0_0,.slice A0_1 l0_1.length c0_1,.slice (some ad139) l0_2.length c0_2] 44 (0,0)) (by (with_reducible repeat (first|refine blk_drewN ?_ _|refine blk_drew ?_|refine blk_alloc ?_ _));exact BK138.out) hb);have n1_:=Aside0.mk (below_step (by repeat (first|(with_reducible first|exact HB.out|apply below_alloc|apply pw_below_drewN|apply below_drew1|refine below_set ?_ GE138.out)|exact HB.out)) hb);have n2_:=Aside0.mk (hbox);have n3_:=Aside0.mk ((by rw [hg];exact (below_size (by repeat (first|(with_reducible first|exact HB.out|apply below_alloc|apply pw_below_drewN|apply below_drew1|refine below_set ?_ GE138.out)|exact HB.out))):w.heap.size≤gb140));have n4_:=Aside0.mk ((by rw [hg];exact (below_size (by repeat (first|(with_reducible first|exact HB.out|apply below_alloc|apply pw_below_drewN|apply below_drew1|refine below_set ?_ GE138.out)|exact HB.out))):w.heap.size≤gb140));have n5_:=Aside0.mk ((by rw [hg];exact Nat.ne_of_lt (blk_lt (g:=gb138) (o:=.cells #[.string a0_0,.slice A0_1 l0_1.length c0_1,.slice (some ad139) l0_2.length c0_2] 44 (0,0)) (by (with_reducible repeat (first|refine blk_drewN ?_ _|refine blk_drew ?_|refine blk_alloc ?_ _));exact BK138.out)):gb138≠gb140));have n6_:=Aside0.mk ((by rw [hg];exact Nat.ne_of_gt (blk_lt (g:=gb138) (o:=.cells #[.string a0_0,.slice A0_1 l0_1.length c0_1,.slice (some ad139) l0_2.length c0_2] 44 (0,0)) (by (with_reducible repeat (first|refine blk_drewN ?_ _|refine blk_drew ?_|refine blk_alloc ?_ _));exact BK138.out)):gb140≠gb138));clear BK138;clear HB;have BK138:=n0_;have HB:=n1_;have BK140:=n2_;have GW140:=n3_;have GE140:=n4_;have NB138_140:=n5_;have NB140_138:=n6_;clear n0_ n1_ n2_ n3_ n4_ n5_ n6_;clear hb hbox hg;have hnb19:=NB140_138.out;have hnc19:=NB138_140.out;have hcz20_0:w18.cell? ⟨gb140,0,none⟩=some (.string (⟨#[]⟩:ByteArray)):=(blk_cell BK140.out 0).trans rfl;have hcz20_1:w18.cell? ⟨gb140,1,none⟩=some (.string (⟨#[]⟩:ByteArray)):=(blk_cell BK140.out 1).trans rfl;have hfz20_0:=blk_frozen BK140.out 0;have hfz20_1:=blk_frozen BK140.out 1)|((with_reducible refine gate_callee (f:=102) rfl ?_);refine goesL_ (some 24) rfl rfl Tryd.func102 (by kernel_rfl) rfl #[.string a1,.string ((rd_T117 l0_2 x7_1).f0)] rfl (by (try simp only [List.map_toArray,List.map_cons,List.map_nil]);first|done|rfl|(simp only [List.length_drop,List.length_take];rfl)) ?_;(with_reducible refine (spec_l1Ends.calls a1 ((rd_T117 l0_2 x7_1).f0) false _ A6.out).mono ?_);rintro e w' ⟨rfl,⟨nd,rfl⟩⟩;refine ⟨_,rfl,?_⟩))
            go_roundg k1
            case measure=>have:=HK1.out;omega
            case rel=>exact ⟨(x5_1),(x6_1),(wrap64 (x7_1+1)),(by first|rfl|(simp;done)|(simp [*];done)),(by first|rfl|(simp;done)|(simp [*];done)),(by first|rfl|(simp;done)|(simp [*];done)),H',⟨by have:=HK1.out;omega⟩,⟨by (with_reducible repeat (first|refine blk_drewN ?_ _|refine blk_drew ?_|refine blk_alloc ?_ _));refine blk_far ?_ NB138_140.out _;(with_reducible repeat (first|refine blk_drewN ?_ _|refine blk_drew ?_|refine blk_alloc ?_ _));refine blk_far ?_ NB138_140.out _;(with_reducible repeat (first|refine blk_drewN ?_ _|refine blk_drew ?_|refine blk_alloc ?_ _));exact BK138.out⟩,⟨by repeat (first|(with_reducible first|exact HB.out|apply below_alloc|apply pw_below_drewN|apply below_drew1|refine below_set ?_ GE138.out|refine below_set ?_ GE140.out)|exact HB.out)⟩⟩
        · rw [if_neg c5] at H
          exact absurd H (by simp)
      · rw [if_neg c4] at H
        have c4b0:decide (x7_1 < (l0_2.length:Int))=false:=decide_eq_false c4
        clear c4
        obtain rfl:=Option.some.inj H
        have hcz21_0:wr.cell? ⟨gb138,0,none⟩=some (.string a0_0):=(blk_cell BK138.out 0).trans rfl
        have hcz21_1:wr.cell? ⟨gb138,1,none⟩=some (.slice A0_1 l0_1.length c0_1):=(blk_cell BK138.out 1).trans rfl
        have hcz21_2:wr.cell? ⟨gb138,2,none⟩=some (.slice A0_2 l0_2.length c0_2):=(blk_cell BK138.out 2).trans rfl
        have hfz21_0:=blk_frozen BK138.out 0
        have hfz21_1:=blk_frozen BK138.out 1
        have hfz21_2:=blk_frozen BK138.out 2
        go_wp2
        go_ret
        exact ⟨by first|rfl|(simp [errW_none,errW_some]<;>rfl)|(simp [*,errW_none,errW_some]<;>rfl),by repeat (first|(with_reducible first|exact HB.out|apply below_alloc|apply pw_below_drewN|apply below_drew1|refine below_set ?_ GE138.out)|exact HB.out)⟩
end Go.Proofs.YthkibaldmjfmmaaDoor.Q
