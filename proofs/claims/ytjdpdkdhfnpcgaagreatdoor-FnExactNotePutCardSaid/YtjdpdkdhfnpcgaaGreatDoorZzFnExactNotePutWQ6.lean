/- Of a text of ours what this claim needs. -/
import Derived.Test.YtjdpdkdhfnpcgaaGreatDoorZzFnExactNotePutWQ0
import Derived.Test.YtjdpdkdhfnpcgaaGreatDoorZzFnExactNotePutWQ1
import Derived.Test.YtjdpdkdhfnpcgaaGreatDoorZzFnExactNotePutWQ3
import Derived.Test.YtjdpdkdhfnpcgaaGreatDoorZzFnExactNotePutWQ5
namespace Go.Proofs.YtjdpdkdhfnpcgaaGreatDoor.Q
open Go.RowKit Go.Proofs.YtjdpdkdhfnpcgaaGreatDoorW.PrintWords Go.Proofs.YtjdpdkdhfnpcgaaGreatDoorW.PrintLast Go.Proofs.YtjdpdkdhfnpcgaaGreatDoorW.PrintMore
attribute [local go_sem] max2_int min2_int max_two min_two max_three min_three max_four min_four
set_option linter.unusedVariables false
set_option linter.unusedSimpArgs false
attribute [local go_sem high] eqA24
mutual
def spec_l2Ok.l0:Nat→Int→ByteArray→ByteArray→List (S24)→List ByteArray→Option (Bool)
  | 0,_,_,_,_,_=>none
  | k+1,x3,x104000,x104001,x104002,x104003=>if x3 < (x104002.length:Int) then (if 0≤x3 then ((spec_l1AddrOk.f k ((rd_T24 x104002 x3).f0) ((rd_T24 x104002 x3).f1)).bind fun t105=>(if t105=true then (spec_l2Ok.l1 k x3 0 x104000 x104001 x104002 x104003) else (some false))) else (none)) else ((spec_l1AddrOk.f k x104000 x104001).bind fun t108=>(if t108=true then ((spec_l1In.f (x104002.length:Int) 1 4).bind fun t109=>(if t109=true then ((spec_l2BodyOk.f k x104003).bind fun t110=>(some t110)) else (some false))) else ((spec_l1Null.f x104000 x104001).bind fun t111=>(if t111=true then ((spec_l1In.f (x104002.length:Int) 1 4).bind fun t112=>(if t112=true then ((spec_l2BodyOk.f k x104003).bind fun t113=>(some t113)) else (some false))) else (some false)))))
def spec_l2Ok.l1:Nat→Int→Int→ByteArray→ByteArray→List (S24)→List ByteArray→Option (Bool)
  | 0,_,_,_,_,_,_=>none
  | k+1,x3,x4,x104000,x104001,x104002,x104003=>if x4 < x3 then (if 0≤x4 then (if x4 < (x104002.length:Int) then (if 0≤x3 then (if x3 < (x104002.length:Int) then (if ((((rd_T24 x104002 x4).f0).toList)==(((rd_T24 x104002 x3).f0).toList) && ((((rd_T24 x104002 x4).f1).toList)==(((rd_T24 x104002 x3).f1).toList)))=true then (some false) else (spec_l2Ok.l1 k x3 (wrap64 (x4+1)) x104000 x104001 x104002 x104003)) else (none)) else (none)) else (none)) else (none)) else (spec_l2Ok.l0 k (wrap64 (x3+1)) x104000 x104001 x104002 x104003)
end
def spec_l2Ok.f (k:Nat) (a0_0:ByteArray) (a0_1:ByteArray) (l0_2:List (S24)) (l0_3:List ByteArray):Option (Bool):=spec_l2Ok.l0 k 0 a0_0 a0_1 l0_2 l0_3
set_option maxHeartbeats 8000000 in
set_option maxRecDepth 100000 in
theorem spec_l2Ok.calls (k:Nat) (a0_0:ByteArray) (a0_1:ByteArray) (A0_2:Option Addr) (c0_2:Nat) (l0_2:List (S24)) (A0_3:Option Addr) (c0_3:Nat) (l0_3:List ByteArray) (r:Bool) (w:World) (hr0_2:Kd.C k24 w A0_2 l0_2.length l0_2) (hc0_2:l0_2.length≤c0_2) (hr0_3:Kd.C Kd.string w A0_3 l0_3.length l0_3) (hc0_3:l0_3.length≤c0_3) (h:spec_l2Ok.f k a0_0 a0_1 l0_2 l0_3=some r) :
    Calls Tryz.prog 57 #[.agg #[.string a0_0,.string a0_1,.slice A0_2 l0_2.length c0_2,.slice A0_3 l0_3.length c0_3]] w fun e w'=>e=.returned (.bool r)∧Below w.heap.size w w':=by
  have hu28:=Tryz.underlying28
  have hu24:=Tryz.underlying24
  have HR0_2:=Aside0.mk hr0_2
  have HC0_2:=Aside0.mk hc0_2
  clear hr0_2 hc0_2
  have HR0_3:=Aside0.mk hr0_3
  have HC0_3:=Aside0.mk hc0_3
  clear hr0_3 hc0_3
  have HB:=Aside0.mk (Below.refl w.heap.size w)
  have H:(spec_l2Ok.l0 k 0 a0_0 a0_1 l0_2 l0_3)=some r:=h
  clear h
  have H':=Aside0.mk H
  clear H
  go_enter Tryz.func57,Tryz.ntmps57
  go_wp2_with (first|((with_reducible refine gate_dst (N:=1) rfl ?_);(try (refine gate_guard (by rfl) ?_;dsimp only));refine box_event ?hg (N:=1) ?hd (cs:=#[.string a0_0,.string a0_1,.slice A0_2 l0_2.length c0_2,.slice A0_3 l0_3.length c0_3]) (t:=28) ?hr ?_;(case hd=>rfl);(case hg=>rfl);(case hr=>first|(go_simp;done)|(go_simp;rfl));intro gb103 hg w2 hbox hb;have n0_:=Aside0.mk (below_step (by repeat (first|(with_reducible first|exact HB.out|apply below_alloc|apply pw_below_drewN|apply below_drew1)|exact HB.out)) hb);have n1_:=Aside0.mk (hbox);have n2_:=Aside0.mk ((by rw [hg];exact (below_size (by repeat (first|(with_reducible first|exact HB.out|apply below_alloc|apply pw_below_drewN|apply below_drew1)|exact HB.out))):w.heap.size≤gb103));have n3_:=Aside0.mk ((by rw [hg];exact (below_size (by repeat (first|(with_reducible first|exact HB.out|apply below_alloc|apply pw_below_drewN|apply below_drew1)|exact HB.out))):w.heap.size≤gb103));clear HB;have HB:=n0_;have BK103:=n1_;have GW103:=n2_;have GE103:=n3_;clear n0_ n1_ n2_ n3_;clear hb hbox hg))
  repeat (go_quiet (first|((with_reducible refine gate_dst (N:=1) rfl ?_);(try (refine gate_guard (by rfl) ?_;dsimp only));refine box_event ?hg (N:=1) ?hd (cs:=#[.string a0_0,.string a0_1,.slice A0_2 l0_2.length c0_2,.slice A0_3 l0_3.length c0_3]) (t:=28) ?hr ?_;(case hd=>rfl);(case hg=>rfl);(case hr=>first|(go_simp;done)|(go_simp;rfl));intro gb103 hg w2 hbox hb;have n0_:=Aside0.mk (below_step (by repeat (first|(with_reducible first|exact HB.out|apply below_alloc|apply pw_below_drewN|apply below_drew1)|exact HB.out)) hb);have n1_:=Aside0.mk (hbox);have n2_:=Aside0.mk ((by rw [hg];exact (below_size (by repeat (first|(with_reducible first|exact HB.out|apply below_alloc|apply pw_below_drewN|apply below_drew1)|exact HB.out))):w.heap.size≤gb103));have n3_:=Aside0.mk ((by rw [hg];exact (below_size (by repeat (first|(with_reducible first|exact HB.out|apply below_alloc|apply pw_below_drewN|apply below_drew1)|exact HB.out))):w.heap.size≤gb103));clear HB;have HB:=n0_;have BK103:=n1_;have GW103:=n2_;have GE103:=n3_;clear n0_ n1_ n2_ n3_;clear hb hbox hg));try go_wp2_with (first|((with_reducible refine gate_dst (N:=1) rfl ?_);(try (refine gate_guard (by rfl) ?_;dsimp only));refine box_event ?hg (N:=1) ?hd (cs:=#[.string a0_0,.string a0_1,.slice A0_2 l0_2.length c0_2,.slice A0_3 l0_3.length c0_3]) (t:=28) ?hr ?_;(case hd=>rfl);(case hg=>rfl);(case hr=>first|(go_simp;done)|(go_simp;rfl));intro gb103 hg w2 hbox hb;have n0_:=Aside0.mk (below_step (by repeat (first|(with_reducible first|exact HB.out|apply below_alloc|apply pw_below_drewN|apply below_drew1)|exact HB.out)) hb);have n1_:=Aside0.mk (hbox);have n2_:=Aside0.mk ((by rw [hg];exact (below_size (by repeat (first|(with_reducible first|exact HB.out|apply below_alloc|apply pw_below_drewN|apply below_drew1)|exact HB.out))):w.heap.size≤gb103));have n3_:=Aside0.mk ((by rw [hg];exact (below_size (by repeat (first|(with_reducible first|exact HB.out|apply below_alloc|apply pw_below_drewN|apply below_drew1)|exact HB.out))):w.heap.size≤gb103));clear HB;have HB:=n0_;have BK103:=n1_;have GW103:=n2_;have GE103:=n3_;clear n0_ n1_ n2_ n3_;clear hb hbox hg)))
  go_loopg [3] k (fun kq v3 w'=>∃ (x3_1:Int),v3=.int .i64 x3_1∧Aside0 (spec_l2Ok.l0 kq x3_1 a0_0 a0_1 l0_2 l0_3=some r)∧Aside0 (kq≤k)∧Aside0 (w'.heap[gb103]?=some (.cells #[.string a0_0,.string a0_1,(.slice A0_2 l0_2.length c0_2),(.slice A0_3 l0_3.length c0_3)] 28 (0,0)))∧Aside0 (Below w.heap.size w w'))
  case atStart=>exact ⟨(0),(by first|rfl|(simp;done)|(simp [*];done)),H',⟨Nat.le_refl _⟩,⟨by (with_reducible repeat (first|refine blk_drewN ?_ _|refine blk_drew ?_|refine blk_alloc ?_ _));exact BK103.out⟩,⟨by repeat (first|(with_reducible first|exact HB.out|apply below_alloc|apply pw_below_drewN|apply below_drew1|refine below_set ?_ GE103.out)|exact HB.out)⟩⟩
  case round =>
    clear H'
    try clear p2
    obtain ⟨x3_1,rfl,HA,HK1,BK103,HB⟩:=hrel
    cases gk with
    | zero=>exact absurd HA.out (by simp [spec_l2Ok.l0])
    | succ k1 =>
      have H:=HA.out
      clear HA
      simp only [spec_l2Ok.l0] at H
      by_cases c3:x3_1 < (l0_2.length:Int)
      · rw [if_pos c3] at H
        have c3b0:decide (x3_1 < (l0_2.length:Int))=true:=decide_eq_true c3
        clear c3
        by_cases c4:0≤x3_1
        · rw [if_pos c4] at H
          have c4b0:decide (0≤x3_1)=true:=decide_eq_true c4
          clear c4
          replace H:=Option.bind_eq_some_iff.mp H
          obtain ⟨t105,A50,H⟩:=H
          replace H:(if t105=true then (spec_l2Ok.l1 k1 x3_1 0 a0_0 a0_1 l0_2 l0_3) else (some false))=some r:=H
          have A5:=Aside0.mk A50
          clear A50
          by_cases c6:t105=true
          · subst c6
            have H1:(spec_l2Ok.l1 k1 x3_1 0 a0_0 a0_1 l0_2 l0_3)=some r:=by rw [if_pos rfl] at H;exact H
            clear H
            have H:=H1
            clear H1
            have H':=Aside0.mk H
            clear H
            have hcz7_0:wr.cell? ⟨gb103,0,none⟩=some (.string a0_0):=(blk_cell BK103.out 0).trans rfl
            have hcz7_1:wr.cell? ⟨gb103,1,none⟩=some (.string a0_1):=(blk_cell BK103.out 1).trans rfl
            have hcz7_2:wr.cell? ⟨gb103,2,none⟩=some (.slice A0_2 l0_2.length c0_2):=(blk_cell BK103.out 2).trans rfl
            have hcz7_3:wr.cell? ⟨gb103,3,none⟩=some (.slice A0_3 l0_3.length c0_3):=(blk_cell BK103.out 3).trans rfl
            have hfz7_0:=blk_frozen BK103.out 0
            have hfz7_1:=blk_frozen BK103.out 1
            have hfz7_2:=blk_frozen BK103.out 2
            have hfz7_3:=blk_frozen BK103.out 3
            have p104:0≤(x3_1:Int):=of_decide_eq_true (by first|(with_reducible assumption)|assumption)
            have q104:x3_1 < (l0_2.length:Int):=of_decide_eq_true (by first|(with_reducible assumption)|assumption)
            obtain ⟨ad104,e104,hx104_0,hx104_1⟩:=at_T24 HR0_2.out x3_1 p104 q104
            cases e104
            replace hx104_0:=(HB.out.cell (World.block_lt_of_cell? w _ hx104_0)).trans hx104_0
            replace hx104_1:=(HB.out.cell (World.block_lt_of_cell? w _ hx104_1)).trans hx104_1
            replace p104:=eq_true p104
            replace q104:=eq_true q104
            go_wp2_with (first|(go_at_call 59;(with_reducible refine (spec_l1AddrOk.calls k1 ((rd_T24 l0_2 x3_1).f0) ((rd_T24 l0_2 x3_1).f1) true _ A5.out).mono ?_);rintro e w8 ⟨rfl,hb⟩;have n0_:=Aside0.mk (blk_below (g:=gb103) (o:=.cells #[.string a0_0,.string a0_1,.slice (some ad104) l0_2.length c0_2,.slice A0_3 l0_3.length c0_3] 28 (0,0)) (by (with_reducible repeat (first|refine blk_drewN ?_ _|refine blk_drew ?_|refine blk_alloc ?_ _));exact BK103.out) hb);have n1_:=Aside0.mk (below_step (by repeat (first|(with_reducible first|exact HB.out|apply below_alloc|apply pw_below_drewN|apply below_drew1|refine below_set ?_ GE103.out)|exact HB.out)) hb);clear BK103;clear HB;have BK103:=n0_;have HB:=n1_;clear n0_ n1_;(try clear hb);(try clear hb2);(try clear hk);(try clear hi)))
            repeat (go_quiet (first|(go_at_call 59;(with_reducible refine (spec_l1AddrOk.calls k1 ((rd_T24 l0_2 x3_1).f0) ((rd_T24 l0_2 x3_1).f1) true _ A5.out).mono ?_);rintro e w8 ⟨rfl,hb⟩;have n0_:=Aside0.mk (blk_below (g:=gb103) (o:=.cells #[.string a0_0,.string a0_1,.slice (some ad104) l0_2.length c0_2,.slice A0_3 l0_3.length c0_3] 28 (0,0)) (by (with_reducible repeat (first|refine blk_drewN ?_ _|refine blk_drew ?_|refine blk_alloc ?_ _));exact BK103.out) hb);have n1_:=Aside0.mk (below_step (by repeat (first|(with_reducible first|exact HB.out|apply below_alloc|apply pw_below_drewN|apply below_drew1|refine below_set ?_ GE103.out)|exact HB.out)) hb);clear BK103;clear HB;have BK103:=n0_;have HB:=n1_;clear n0_ n1_;(try clear hb);(try clear hb2);(try clear hk);(try clear hi)));try go_wp2_with (first|(go_at_call 59;(with_reducible refine (spec_l1AddrOk.calls k1 ((rd_T24 l0_2 x3_1).f0) ((rd_T24 l0_2 x3_1).f1) true _ A5.out).mono ?_);rintro e w8 ⟨rfl,hb⟩;have n0_:=Aside0.mk (blk_below (g:=gb103) (o:=.cells #[.string a0_0,.string a0_1,.slice (some ad104) l0_2.length c0_2,.slice A0_3 l0_3.length c0_3] 28 (0,0)) (by (with_reducible repeat (first|refine blk_drewN ?_ _|refine blk_drew ?_|refine blk_alloc ?_ _));exact BK103.out) hb);have n1_:=Aside0.mk (below_step (by repeat (first|(with_reducible first|exact HB.out|apply below_alloc|apply pw_below_drewN|apply below_drew1|refine below_set ?_ GE103.out)|exact HB.out)) hb);clear BK103;clear HB;have BK103:=n0_;have HB:=n1_;clear n0_ n1_;(try clear hb);(try clear hb2);(try clear hk);(try clear hi))))
            go_loopg [4] k1 (fun kq v4 w'=>∃ (x4_2:Int),v4=.int .i64 x4_2∧Aside0 (spec_l2Ok.l1 kq x3_1 x4_2 a0_0 a0_1 l0_2 l0_3=some r)∧Aside0 (kq≤k1)∧Aside0 (w'.heap[gb103]?=some (.cells #[.string a0_0,.string a0_1,(.slice (some ad104) l0_2.length c0_2),(.slice A0_3 l0_3.length c0_3)] 28 (0,0)))∧Aside0 (Below w.heap.size w w'))
            case atStart=>exact ⟨(0),(by first|rfl|(simp;done)|(simp [*];done)),H',⟨Nat.le_refl _⟩,⟨by (with_reducible repeat (first|refine blk_drewN ?_ _|refine blk_drew ?_|refine blk_alloc ?_ _));exact BK103.out⟩,⟨by repeat (first|(with_reducible first|exact HB.out|apply below_alloc|apply pw_below_drewN|apply below_drew1|refine below_set ?_ GE103.out)|exact HB.out)⟩⟩
            case round =>
              clear H'
              try clear p1
              try clear q1
              try clear hx1
              try clear p2
              try clear c3
              try clear c3b0
              try clear c4
              try clear c4b0
              try clear c5
              try clear c6
              try clear hcz7_0
              try clear hcz7_1
              try clear hcz7_2
              try clear hcz7_3
              try clear hfz7_0
              try clear hfz7_1
              try clear hfz7_2
              try clear hfz7_3
              try clear hx104_0
              try clear hx104_1
              try clear p104
              try clear p2
              try clear q104
              obtain ⟨x4_2,rfl,HA,HK2,BK103,HB⟩:=hrel
              cases gk with
              | zero=>exact absurd HA.out (by simp [spec_l2Ok.l1])
              | succ k2 =>
                have H:=HA.out
                clear HA
                simp only [spec_l2Ok.l1] at H
                by_cases c9:x4_2 < x3_1
                · rw [if_pos c9] at H
                  have c9b0:decide (x4_2 < x3_1)=true:=decide_eq_true c9
                  clear c9
                  by_cases c10:0≤x4_2
                  · rw [if_pos c10] at H
                    have c10b0:decide (0≤x4_2)=true:=decide_eq_true c10
                    clear c10
                    by_cases c11:x4_2 < (l0_2.length:Int)
                    · rw [if_pos c11] at H
                      have c11b0:decide (x4_2 < (l0_2.length:Int))=true:=decide_eq_true c11
                      clear c11
                      by_cases c12:0≤x3_1
                      · rw [if_pos c12] at H
                        have c12b0:decide (0≤x3_1)=true:=decide_eq_true c12
                        clear c12
                        by_cases c13:x3_1 < (l0_2.length:Int)
                        · rw [if_pos c13] at H
                          have c13b0:decide (x3_1 < (l0_2.length:Int))=true:=decide_eq_true c13
                          clear c13
                          by_cases c14:((((rd_T24 l0_2 x4_2).f0).toList)==(((rd_T24 l0_2 x3_1).f0).toList) && ((((rd_T24 l0_2 x4_2).f1).toList)==(((rd_T24 l0_2 x3_1).f1).toList)))=true
                          · rw [if_pos c14] at H
                            have c14b0:((((rd_T24 l0_2 x4_2).f0).toList)==(((rd_T24 l0_2 x3_1).f0).toList) && ((((rd_T24 l0_2 x4_2).f1).toList)==(((rd_T24 l0_2 x3_1).f1).toList)))=true:=c14
                            (try (have c14b1:decide ((((rd_T24 l0_2 x4_2).f0).toList)=(((rd_T24 l0_2 x3_1).f0).toList) && ((((rd_T24 l0_2 x4_2).f1).toList)==(((rd_T24 l0_2 x3_1).f1).toList)))=true:=by simpa using c14))
                            (try (have c14b2:((((rd_T24 l0_2 x4_2).f0).toList)==(((rd_T24 l0_2 x3_1).f0).toList) && ((((rd_T24 l0_2 x4_2).f1).toList)==(((rd_T24 l0_2 x3_1).f1).toList)))=true:=by simpa using c14))
                            clear c14
                            obtain rfl:=Option.some.inj H
                            have hcz15_0:wr.cell? ⟨gb103,0,none⟩=some (.string a0_0):=(blk_cell BK103.out 0).trans rfl
                            have hcz15_1:wr.cell? ⟨gb103,1,none⟩=some (.string a0_1):=(blk_cell BK103.out 1).trans rfl
                            have hcz15_2:wr.cell? ⟨gb103,2,none⟩=some (.slice (some ad104) l0_2.length c0_2):=(blk_cell BK103.out 2).trans rfl
                            have hcz15_3:wr.cell? ⟨gb103,3,none⟩=some (.slice A0_3 l0_3.length c0_3):=(blk_cell BK103.out 3).trans rfl
                            have hfz15_0:=blk_frozen BK103.out 0
                            have hfz15_1:=blk_frozen BK103.out 1
                            have hfz15_2:=blk_frozen BK103.out 2
                            have hfz15_3:=blk_frozen BK103.out 3
                            have p106:0≤(x4_2:Int):=of_decide_eq_true (by first|(with_reducible assumption)|assumption)
                            have q106:x4_2 < (l0_2.length:Int):=of_decide_eq_true (by first|(with_reducible assumption)|assumption)
                            obtain ⟨ad106,e106,hx106_0,hx106_1⟩:=at_T24 HR0_2.out x4_2 p106 q106
                            obtain rfl:ad104=ad106:=(by injection e106)
                            replace hx106_0:=(HB.out.cell (World.block_lt_of_cell? w _ hx106_0)).trans hx106_0
                            replace hx106_1:=(HB.out.cell (World.block_lt_of_cell? w _ hx106_1)).trans hx106_1
                            replace p106:=eq_true p106
                            replace q106:=eq_true q106
                            have p107:0≤(x3_1:Int):=of_decide_eq_true (by first|(with_reducible assumption)|assumption)
                            have q107:x3_1 < (l0_2.length:Int):=of_decide_eq_true (by first|(with_reducible assumption)|assumption)
                            obtain ⟨ad107,e107,hx107_0,hx107_1⟩:=at_T24 HR0_2.out x3_1 p107 q107
                            obtain rfl:ad104=ad107:=(by injection e107)
                            replace hx107_0:=(HB.out.cell (World.block_lt_of_cell? w _ hx107_0)).trans hx107_0
                            replace hx107_1:=(HB.out.cell (World.block_lt_of_cell? w _ hx107_1)).trans hx107_1
                            replace p107:=eq_true p107
                            replace q107:=eq_true q107
                            go_wp2
                            repeat (go_quiet (fail);try go_wp2)
                            go_ret
                            exact ⟨by first|rfl|(simp [errW_none,errW_some]<;>rfl)|(simp [*,errW_none,errW_some]<;>rfl),by repeat (first|(with_reducible first|exact HB.out|apply below_alloc|apply pw_below_drewN|apply below_drew1|refine below_set ?_ GE103.out)|exact HB.out)⟩
                          · rw [if_neg c14] at H
                            have c14b0:((((rd_T24 l0_2 x4_2).f0).toList)==(((rd_T24 l0_2 x3_1).f0).toList) && ((((rd_T24 l0_2 x4_2).f1).toList)==(((rd_T24 l0_2 x3_1).f1).toList)))=false:=by simpa using c14
                            (try (have c14b1:decide ((((rd_T24 l0_2 x4_2).f0).toList)=(((rd_T24 l0_2 x3_1).f0).toList) && ((((rd_T24 l0_2 x4_2).f1).toList)==(((rd_T24 l0_2 x3_1).f1).toList)))=false:=by simpa using c14))
                            (try (have c14b2:((((rd_T24 l0_2 x4_2).f0).toList)==(((rd_T24 l0_2 x3_1).f0).toList) && ((((rd_T24 l0_2 x4_2).f1).toList)==(((rd_T24 l0_2 x3_1).f1).toList)))=false:=by simpa using c14))
                            (try (have c14b3:¬ ((((rd_T24 l0_2 x4_2).f0).toList)=(((rd_T24 l0_2 x3_1).f0).toList) && ((((rd_T24 l0_2 x4_2).f1).toList)==(((rd_T24 l0_2 x3_1).f1).toList))):=by simpa using c14))
                            clear c14
                            have H':=Aside0.mk H
                            clear H
                            have hcz16_0:wr.cell? ⟨gb103,0,none⟩=some (.string a0_0):=(blk_cell BK103.out 0).trans rfl
                            have hcz16_1:wr.cell? ⟨gb103,1,none⟩=some (.string a0_1):=(blk_cell BK103.out 1).trans rfl
                            have hcz16_2:wr.cell? ⟨gb103,2,none⟩=some (.slice (some ad104) l0_2.length c0_2):=(blk_cell BK103.out 2).trans rfl
                            have hcz16_3:wr.cell? ⟨gb103,3,none⟩=some (.slice A0_3 l0_3.length c0_3):=(blk_cell BK103.out 3).trans rfl
                            have hfz16_0:=blk_frozen BK103.out 0
                            have hfz16_1:=blk_frozen BK103.out 1
                            have hfz16_2:=blk_frozen BK103.out 2
                            have hfz16_3:=blk_frozen BK103.out 3
                            have p106:0≤(x4_2:Int):=of_decide_eq_true (by first|(with_reducible assumption)|assumption)
                            have q106:x4_2 < (l0_2.length:Int):=of_decide_eq_true (by first|(with_reducible assumption)|assumption)
                            obtain ⟨ad106,e106,hx106_0,hx106_1⟩:=at_T24 HR0_2.out x4_2 p106 q106
                            obtain rfl:ad104=ad106:=(by injection e106)
                            replace hx106_0:=(HB.out.cell (World.block_lt_of_cell? w _ hx106_0)).trans hx106_0
                            replace hx106_1:=(HB.out.cell (World.block_lt_of_cell? w _ hx106_1)).trans hx106_1
                            replace p106:=eq_true p106
                            replace q106:=eq_true q106
                            have p107:0≤(x3_1:Int):=of_decide_eq_true (by first|(with_reducible assumption)|assumption)
                            have q107:x3_1 < (l0_2.length:Int):=of_decide_eq_true (by first|(with_reducible assumption)|assumption)
                            obtain ⟨ad107,e107,hx107_0,hx107_1⟩:=at_T24 HR0_2.out x3_1 p107 q107
                            obtain rfl:ad104=ad107:=(by injection e107)
                            replace hx107_0:=(HB.out.cell (World.block_lt_of_cell? w _ hx107_0)).trans hx107_0
                            replace hx107_1:=(HB.out.cell (World.block_lt_of_cell? w _ hx107_1)).trans hx107_1
                            replace p107:=eq_true p107
                            replace q107:=eq_true q107
                            go_wp2
                            repeat (go_quiet (fail);try go_wp2)
                            go_roundg k2
                            case measure=>have:=HK1.out;have:=HK2.out;omega
                            case rel=>exact ⟨(wrap64 (x4_2+1)),(by first|rfl|(simp;done)|(simp [*];done)),H',⟨by have:=HK1.out;have:=HK2.out;omega⟩,⟨by (with_reducible repeat (first|refine blk_drewN ?_ _|refine blk_drew ?_|refine blk_alloc ?_ _));exact BK103.out⟩,⟨by repeat (first|(with_reducible first|exact HB.out|apply below_alloc|apply pw_below_drewN|apply below_drew1|refine below_set ?_ GE103.out)|exact HB.out)⟩⟩
                        · rw [if_neg c13] at H
                          exact absurd H (by simp)
                      · rw [if_neg c12] at H
                        exact absurd H (by simp)
                    · rw [if_neg c11] at H
                      exact absurd H (by simp)
                  · rw [if_neg c10] at H
                    exact absurd H (by simp)
                · rw [if_neg c9] at H
                  have c9b0:decide (x4_2 < x3_1)=false:=decide_eq_false c9
                  clear c9
                  have H':=Aside0.mk H
                  clear H
                  go_wp2
                  repeat (go_quiet (fail);try go_wp2)
                  go_roundg k2
                  case measure=>have:=HK1.out;have:=HK2.out;omega
                  case rel=>exact ⟨(wrap64 (x3_1+1)),(by first|rfl|(simp;done)|(simp [*];done)),H',⟨by have:=HK1.out;have:=HK2.out;omega⟩,⟨by (with_reducible repeat (first|refine blk_drewN ?_ _|refine blk_drew ?_|refine blk_alloc ?_ _));exact BK103.out⟩,⟨by repeat (first|(with_reducible first|exact HB.out|apply below_alloc|apply pw_below_drewN|apply below_drew1|refine below_set ?_ GE103.out)|exact HB.out)⟩⟩
          · replace c6:=Bool.eq_false_iff.mpr c6
            subst c6
            have H1:(some false)=some r:=by rw [if_neg (show ¬ (false=true) by decide)] at H;exact H
            clear H
            have H:=H1
            clear H1
            obtain rfl:=Option.some.inj H
            have hcz17_0:wr.cell? ⟨gb103,0,none⟩=some (.string a0_0):=(blk_cell BK103.out 0).trans rfl
            have hcz17_1:wr.cell? ⟨gb103,1,none⟩=some (.string a0_1):=(blk_cell BK103.out 1).trans rfl
            have hcz17_2:wr.cell? ⟨gb103,2,none⟩=some (.slice A0_2 l0_2.length c0_2):=(blk_cell BK103.out 2).trans rfl
            have hcz17_3:wr.cell? ⟨gb103,3,none⟩=some (.slice A0_3 l0_3.length c0_3):=(blk_cell BK103.out 3).trans rfl
            have hfz17_0:=blk_frozen BK103.out 0
            have hfz17_1:=blk_frozen BK103.out 1
            have hfz17_2:=blk_frozen BK103.out 2
            have hfz17_3:=blk_frozen BK103.out 3
            have p104:0≤(x3_1:Int):=of_decide_eq_true (by first|(with_reducible assumption)|assumption)
            have q104:x3_1 < (l0_2.length:Int):=of_decide_eq_true (by first|(with_reducible assumption)|assumption)
            obtain ⟨ad104,e104,hx104_0,hx104_1⟩:=at_T24 HR0_2.out x3_1 p104 q104
            cases e104
            replace hx104_0:=(HB.out.cell (World.block_lt_of_cell? w _ hx104_0)).trans hx104_0
            replace hx104_1:=(HB.out.cell (World.block_lt_of_cell? w _ hx104_1)).trans hx104_1
            replace p104:=eq_true p104
            replace q104:=eq_true q104
            go_wp2_with (first|(go_at_call 59;(with_reducible refine (spec_l1AddrOk.calls k1 ((rd_T24 l0_2 x3_1).f0) ((rd_T24 l0_2 x3_1).f1) false _ A5.out).mono ?_);rintro e w18 ⟨rfl,hb⟩;have n0_:=Aside0.mk (blk_below (g:=gb103) (o:=.cells #[.string a0_0,.string a0_1,.slice (some ad104) l0_2.length c0_2,.slice A0_3 l0_3.length c0_3] 28 (0,0)) (by (with_reducible repeat (first|refine blk_drewN ?_ _|refine blk_drew ?_|refine blk_alloc ?_ _));exact BK103.out) hb);have n1_:=Aside0.mk (below_step (by repeat (first|(with_reducible first|exact HB.out|apply below_alloc|apply pw_below_drewN|apply below_drew1|refine below_set ?_ GE103.out)|exact HB.out)) hb);clear BK103;clear HB;have BK103:=n0_;have HB:=n1_;clear n0_ n1_;(try clear hb);(try clear hb2);(try clear hk);(try clear hi)))
            repeat (go_quiet (first|(go_at_call 59;(with_reducible refine (spec_l1AddrOk.calls k1 ((rd_T24 l0_2 x3_1).f0) ((rd_T24 l0_2 x3_1).f1) false _ A5.out).mono ?_);rintro e w18 ⟨rfl,hb⟩;have n0_:=Aside0.mk (blk_below (g:=gb103) (o:=.cells #[.string a0_0,.string a0_1,.slice (some ad104) l0_2.length c0_2,.slice A0_3 l0_3.length c0_3] 28 (0,0)) (by (with_reducible repeat (first|refine blk_drewN ?_ _|refine blk_drew ?_|refine blk_alloc ?_ _));exact BK103.out) hb);have n1_:=Aside0.mk (below_step (by repeat (first|(with_reducible first|exact HB.out|apply below_alloc|apply pw_below_drewN|apply below_drew1|refine below_set ?_ GE103.out)|exact HB.out)) hb);clear BK103;clear HB;have BK103:=n0_;have HB:=n1_;clear n0_ n1_;(try clear hb);(try clear hb2);(try clear hk);(try clear hi)));try go_wp2_with (first|(go_at_call 59;(with_reducible refine (spec_l1AddrOk.calls k1 ((rd_T24 l0_2 x3_1).f0) ((rd_T24 l0_2 x3_1).f1) false _ A5.out).mono ?_);rintro e w18 ⟨rfl,hb⟩;have n0_:=Aside0.mk (blk_below (g:=gb103) (o:=.cells #[.string a0_0,.string a0_1,.slice (some ad104) l0_2.length c0_2,.slice A0_3 l0_3.length c0_3] 28 (0,0)) (by (with_reducible repeat (first|refine blk_drewN ?_ _|refine blk_drew ?_|refine blk_alloc ?_ _));exact BK103.out) hb);have n1_:=Aside0.mk (below_step (by repeat (first|(with_reducible first|exact HB.out|apply below_alloc|apply pw_below_drewN|apply below_drew1|refine below_set ?_ GE103.out)|exact HB.out)) hb);clear BK103;clear HB;have BK103:=n0_;have HB:=n1_;clear n0_ n1_;(try clear hb);(try clear hb2);(try clear hk);(try clear hi))))
            go_ret
            exact ⟨by first|rfl|(simp [errW_none,errW_some]<;>rfl)|(simp [*,errW_none,errW_some]<;>rfl),by repeat (first|(with_reducible first|exact HB.out|apply below_alloc|apply pw_below_drewN|apply below_drew1|refine below_set ?_ GE103.out)|exact HB.out)⟩
        · rw [if_neg c4] at H
          exact absurd H (by simp)
      · rw [if_neg c3] at H
        have c3b0:decide (x3_1 < (l0_2.length:Int))=false:=decide_eq_false c3
        clear c3
        replace H:=Option.bind_eq_some_iff.mp H
        obtain ⟨t108,A190,H⟩:=H
        replace H:(if t108=true then ((spec_l1In.f (l0_2.length:Int) 1 4).bind fun t109=>(if t109=true then ((spec_l2BodyOk.f k1 l0_3).bind fun t110=>(some t110)) else (some false))) else ((spec_l1Null.f a0_0 a0_1).bind fun t111=>(if t111=true then ((spec_l1In.f (l0_2.length:Int) 1 4).bind fun t112=>(if t112=true then ((spec_l2BodyOk.f k1 l0_3).bind fun t113=>(some t113)) else (some false))) else (some false))))=some r:=H
        have A19:=Aside0.mk A190
        clear A190
        by_cases c20:t108=true
        · subst c20
          have H1:((spec_l1In.f (l0_2.length:Int) 1 4).bind fun t109=>(if t109=true then ((spec_l2BodyOk.f k1 l0_3).bind fun t110=>(some t110)) else (some false)))=some r:=by rw [if_pos rfl] at H;exact H
          clear H
          have H:=H1
          clear H1
          replace H:=Option.bind_eq_some_iff.mp H
          obtain ⟨t109,A210,H⟩:=H
          replace H:(if t109=true then ((spec_l2BodyOk.f k1 l0_3).bind fun t110=>(some t110)) else (some false))=some r:=H
          have A21:=Aside0.mk A210
          clear A210
          by_cases c22:t109=true
          · subst c22
            have H1:((spec_l2BodyOk.f k1 l0_3).bind fun t110=>(some t110))=some r:=by rw [if_pos rfl] at H;exact H
            clear H
            have H:=H1
            clear H1
            replace H:=Option.bind_eq_some_iff.mp H
            obtain ⟨t110,A230,H⟩:=H
            replace H:(some t110)=some r:=H
            have A23:=Aside0.mk A230
            clear A230
            obtain rfl:=Option.some.inj H
            have hcz24_0:wr.cell? ⟨gb103,0,none⟩=some (.string a0_0):=(blk_cell BK103.out 0).trans rfl
            have hcz24_1:wr.cell? ⟨gb103,1,none⟩=some (.string a0_1):=(blk_cell BK103.out 1).trans rfl
            have hcz24_2:wr.cell? ⟨gb103,2,none⟩=some (.slice A0_2 l0_2.length c0_2):=(blk_cell BK103.out 2).trans rfl
            have hcz24_3:wr.cell? ⟨gb103,3,none⟩=some (.slice A0_3 l0_3.length c0_3):=(blk_cell BK103.out 3).trans rfl
            have hfz24_0:=blk_frozen BK103.out 0
            have hfz24_1:=blk_frozen BK103.out 1
            have hfz24_2:=blk_frozen BK103.out 2
            have hfz24_3:=blk_frozen BK103.out 3
            go_wp2_with (first|(go_at_call 59;(with_reducible refine (spec_l1AddrOk.calls k1 a0_0 a0_1 true _ A19.out).mono ?_);rintro e w25 ⟨rfl,hb⟩;have n0_:=Aside0.mk (blk_below (g:=gb103) (o:=.cells #[.string a0_0,.string a0_1,.slice A0_2 l0_2.length c0_2,.slice A0_3 l0_3.length c0_3] 28 (0,0)) (by (with_reducible repeat (first|refine blk_drewN ?_ _|refine blk_drew ?_|refine blk_alloc ?_ _));exact BK103.out) hb);have n1_:=Aside0.mk (below_step (by repeat (first|(with_reducible first|exact HB.out|apply below_alloc|apply pw_below_drewN|apply below_drew1|refine below_set ?_ GE103.out)|exact HB.out)) hb);clear BK103;clear HB;have BK103:=n0_;have HB:=n1_;clear n0_ n1_;(try clear hb);(try clear hb2);(try clear hk);(try clear hi);have hcz26_0:w25.cell? ⟨gb103,0,none⟩=some (.string a0_0):=(blk_cell BK103.out 0).trans rfl;have hcz26_1:w25.cell? ⟨gb103,1,none⟩=some (.string a0_1):=(blk_cell BK103.out 1).trans rfl;have hcz26_2:w25.cell? ⟨gb103,2,none⟩=some (.slice A0_2 l0_2.length c0_2):=(blk_cell BK103.out 2).trans rfl;have hcz26_3:w25.cell? ⟨gb103,3,none⟩=some (.slice A0_3 l0_3.length c0_3):=(blk_cell BK103.out 3).trans rfl;have hfz26_0:=blk_frozen BK103.out 0;have hfz26_1:=blk_frozen BK103.out 1;have hfz26_2:=blk_frozen BK103.out 2;have hfz26_3:=blk_frozen BK103.out 3)|(go_at_call 58;(with_reducible refine (spec_l1In.calls (l0_2.length:Int) 1 4 true _ A21.out).mono ?_);rintro e w' ⟨rfl,⟨nd,rfl⟩⟩;(try first|exact ⟨rfl,_,World.drewN_drewN _ _ _⟩|exact ⟨rfl,_,Eq.trans (World.drewN_drewN _ _ _) (congrArg (World.drewN _) (Nat.add_assoc _ _ _))⟩))|(go_at_call 107;(with_reducible refine (spec_l2BodyOk.calls k1 _ _ l0_3 t110 _ ?side1 ?side2 A23.out).mono ?_);(case side1=>repeat (first|exact (Kd.C_below HR0_3.out (by repeat (first|(with_reducible first|exact HB.out|apply below_alloc|apply pw_below_drewN|apply below_drew1|refine below_set ?_ GE103.out)|exact HB.out)))|(with_reducible refine Kd.C_alloc ?_ _)|(with_reducible refine Kd.C_drewN ?_ _)|(with_reducible refine Kd.C_drew ?_)));(case side2=>exact HC0_3.out);rintro e w' ⟨rfl,⟨nd,rfl⟩⟩;(try first|exact ⟨rfl,_,World.drewN_drewN _ _ _⟩|exact ⟨rfl,_,Eq.trans (World.drewN_drewN _ _ _) (congrArg (World.drewN _) (Nat.add_assoc _ _ _))⟩)))
            repeat (go_quiet (first|(go_at_call 59;(with_reducible refine (spec_l1AddrOk.calls k1 a0_0 a0_1 true _ A19.out).mono ?_);rintro e w25 ⟨rfl,hb⟩;have n0_:=Aside0.mk (blk_below (g:=gb103) (o:=.cells #[.string a0_0,.string a0_1,.slice A0_2 l0_2.length c0_2,.slice A0_3 l0_3.length c0_3] 28 (0,0)) (by (with_reducible repeat (first|refine blk_drewN ?_ _|refine blk_drew ?_|refine blk_alloc ?_ _));exact BK103.out) hb);have n1_:=Aside0.mk (below_step (by repeat (first|(with_reducible first|exact HB.out|apply below_alloc|apply pw_below_drewN|apply below_drew1|refine below_set ?_ GE103.out)|exact HB.out)) hb);clear BK103;clear HB;have BK103:=n0_;have HB:=n1_;clear n0_ n1_;(try clear hb);(try clear hb2);(try clear hk);(try clear hi);have hcz26_0:w25.cell? ⟨gb103,0,none⟩=some (.string a0_0):=(blk_cell BK103.out 0).trans rfl;have hcz26_1:w25.cell? ⟨gb103,1,none⟩=some (.string a0_1):=(blk_cell BK103.out 1).trans rfl;have hcz26_2:w25.cell? ⟨gb103,2,none⟩=some (.slice A0_2 l0_2.length c0_2):=(blk_cell BK103.out 2).trans rfl;have hcz26_3:w25.cell? ⟨gb103,3,none⟩=some (.slice A0_3 l0_3.length c0_3):=(blk_cell BK103.out 3).trans rfl;have hfz26_0:=blk_frozen BK103.out 0;have hfz26_1:=blk_frozen BK103.out 1;have hfz26_2:=blk_frozen BK103.out 2;have hfz26_3:=blk_frozen BK103.out 3)|(go_at_call 58;(with_reducible refine (spec_l1In.calls (l0_2.length:Int) 1 4 true _ A21.out).mono ?_);rintro e w' ⟨rfl,⟨nd,rfl⟩⟩;(try first|exact ⟨rfl,_,World.drewN_drewN _ _ _⟩|exact ⟨rfl,_,Eq.trans (World.drewN_drewN _ _ _) (congrArg (World.drewN _) (Nat.add_assoc _ _ _))⟩))|(go_at_call 107;(with_reducible refine (spec_l2BodyOk.calls k1 _ _ l0_3 t110 _ ?side1 ?side2 A23.out).mono ?_);(case side1=>repeat (first|exact (Kd.C_below HR0_3.out (by repeat (first|(with_reducible first|exact HB.out|apply below_alloc|apply pw_below_drewN|apply below_drew1|refine below_set ?_ GE103.out)|exact HB.out)))|(with_reducible refine Kd.C_alloc ?_ _)|(with_reducible refine Kd.C_drewN ?_ _)|(with_reducible refine Kd.C_drew ?_)));(case side2=>exact HC0_3.out);rintro e w' ⟨rfl,⟨nd,rfl⟩⟩;(try first|exact ⟨rfl,_,World.drewN_drewN _ _ _⟩|exact ⟨rfl,_,Eq.trans (World.drewN_drewN _ _ _) (congrArg (World.drewN _) (Nat.add_assoc _ _ _))⟩)));try go_wp2_with (first|(go_at_call 59;(with_reducible refine (spec_l1AddrOk.calls k1 a0_0 a0_1 true _ A19.out).mono ?_);rintro e w25 ⟨rfl,hb⟩;have n0_:=Aside0.mk (blk_below (g:=gb103) (o:=.cells #[.string a0_0,.string a0_1,.slice A0_2 l0_2.length c0_2,.slice A0_3 l0_3.length c0_3] 28 (0,0)) (by (with_reducible repeat (first|refine blk_drewN ?_ _|refine blk_drew ?_|refine blk_alloc ?_ _));exact BK103.out) hb);have n1_:=Aside0.mk (below_step (by repeat (first|(with_reducible first|exact HB.out|apply below_alloc|apply pw_below_drewN|apply below_drew1|refine below_set ?_ GE103.out)|exact HB.out)) hb);clear BK103;clear HB;have BK103:=n0_;have HB:=n1_;clear n0_ n1_;(try clear hb);(try clear hb2);(try clear hk);(try clear hi);have hcz26_0:w25.cell? ⟨gb103,0,none⟩=some (.string a0_0):=(blk_cell BK103.out 0).trans rfl;have hcz26_1:w25.cell? ⟨gb103,1,none⟩=some (.string a0_1):=(blk_cell BK103.out 1).trans rfl;have hcz26_2:w25.cell? ⟨gb103,2,none⟩=some (.slice A0_2 l0_2.length c0_2):=(blk_cell BK103.out 2).trans rfl;have hcz26_3:w25.cell? ⟨gb103,3,none⟩=some (.slice A0_3 l0_3.length c0_3):=(blk_cell BK103.out 3).trans rfl;have hfz26_0:=blk_frozen BK103.out 0;have hfz26_1:=blk_frozen BK103.out 1;have hfz26_2:=blk_frozen BK103.out 2;have hfz26_3:=blk_frozen BK103.out 3)|(go_at_call 58;(with_reducible refine (spec_l1In.calls (l0_2.length:Int) 1 4 true _ A21.out).mono ?_);rintro e w' ⟨rfl,⟨nd,rfl⟩⟩;(try first|exact ⟨rfl,_,World.drewN_drewN _ _ _⟩|exact ⟨rfl,_,Eq.trans (World.drewN_drewN _ _ _) (congrArg (World.drewN _) (Nat.add_assoc _ _ _))⟩))|(go_at_call 107;(with_reducible refine (spec_l2BodyOk.calls k1 _ _ l0_3 t110 _ ?side1 ?side2 A23.out).mono ?_);(case side1=>repeat (first|exact (Kd.C_below HR0_3.out (by repeat (first|(with_reducible first|exact HB.out|apply below_alloc|apply pw_below_drewN|apply below_drew1|refine below_set ?_ GE103.out)|exact HB.out)))|(with_reducible refine Kd.C_alloc ?_ _)|(with_reducible refine Kd.C_drewN ?_ _)|(with_reducible refine Kd.C_drew ?_)));(case side2=>exact HC0_3.out);rintro e w' ⟨rfl,⟨nd,rfl⟩⟩;(try first|exact ⟨rfl,_,World.drewN_drewN _ _ _⟩|exact ⟨rfl,_,Eq.trans (World.drewN_drewN _ _ _) (congrArg (World.drewN _) (Nat.add_assoc _ _ _))⟩))))
            go_ret
            exact ⟨by first|rfl|(simp [errW_none,errW_some]<;>rfl)|(simp [*,errW_none,errW_some]<;>rfl),by repeat (first|(with_reducible first|exact HB.out|apply below_alloc|apply pw_below_drewN|apply below_drew1|refine below_set ?_ GE103.out)|exact HB.out)⟩
          · replace c22:=Bool.eq_false_iff.mpr c22
            subst c22
            have H1:(some false)=some r:=by rw [if_neg (show ¬ (false=true) by decide)] at H;exact H
            clear H
            have H:=H1
            clear H1
            obtain rfl:=Option.some.inj H
            have hcz27_0:wr.cell? ⟨gb103,0,none⟩=some (.string a0_0):=(blk_cell BK103.out 0).trans rfl
            have hcz27_1:wr.cell? ⟨gb103,1,none⟩=some (.string a0_1):=(blk_cell BK103.out 1).trans rfl
            have hcz27_2:wr.cell? ⟨gb103,2,none⟩=some (.slice A0_2 l0_2.length c0_2):=(blk_cell BK103.out 2).trans rfl
            have hcz27_3:wr.cell? ⟨gb103,3,none⟩=some (.slice A0_3 l0_3.length c0_3):=(blk_cell BK103.out 3).trans rfl
            have hfz27_0:=blk_frozen BK103.out 0
            have hfz27_1:=blk_frozen BK103.out 1
            have hfz27_2:=blk_frozen BK103.out 2
            have hfz27_3:=blk_frozen BK103.out 3
            go_wp2_with (first|(go_at_call 59;(with_reducible refine (spec_l1AddrOk.calls k1 a0_0 a0_1 true _ A19.out).mono ?_);rintro e w28 ⟨rfl,hb⟩;have n0_:=Aside0.mk (blk_below (g:=gb103) (o:=.cells #[.string a0_0,.string a0_1,.slice A0_2 l0_2.length c0_2,.slice A0_3 l0_3.length c0_3] 28 (0,0)) (by (with_reducible repeat (first|refine blk_drewN ?_ _|refine blk_drew ?_|refine blk_alloc ?_ _));exact BK103.out) hb);have n1_:=Aside0.mk (below_step (by repeat (first|(with_reducible first|exact HB.out|apply below_alloc|apply pw_below_drewN|apply below_drew1|refine below_set ?_ GE103.out)|exact HB.out)) hb);clear BK103;clear HB;have BK103:=n0_;have HB:=n1_;clear n0_ n1_;(try clear hb);(try clear hb2);(try clear hk);(try clear hi);have hcz29_0:w28.cell? ⟨gb103,0,none⟩=some (.string a0_0):=(blk_cell BK103.out 0).trans rfl;have hcz29_1:w28.cell? ⟨gb103,1,none⟩=some (.string a0_1):=(blk_cell BK103.out 1).trans rfl;have hcz29_2:w28.cell? ⟨gb103,2,none⟩=some (.slice A0_2 l0_2.length c0_2):=(blk_cell BK103.out 2).trans rfl;have hcz29_3:w28.cell? ⟨gb103,3,none⟩=some (.slice A0_3 l0_3.length c0_3):=(blk_cell BK103.out 3).trans rfl;have hfz29_0:=blk_frozen BK103.out 0;have hfz29_1:=blk_frozen BK103.out 1;have hfz29_2:=blk_frozen BK103.out 2;have hfz29_3:=blk_frozen BK103.out 3)|(go_at_call 58;(with_reducible refine (spec_l1In.calls (l0_2.length:Int) 1 4 false _ A21.out).mono ?_);rintro e w' ⟨rfl,⟨nd,rfl⟩⟩;(try first|exact ⟨rfl,_,World.drewN_drewN _ _ _⟩|exact ⟨rfl,_,Eq.trans (World.drewN_drewN _ _ _) (congrArg (World.drewN _) (Nat.add_assoc _ _ _))⟩)))
            repeat (go_quiet (first|(go_at_call 59;(with_reducible refine (spec_l1AddrOk.calls k1 a0_0 a0_1 true _ A19.out).mono ?_);rintro e w28 ⟨rfl,hb⟩;have n0_:=Aside0.mk (blk_below (g:=gb103) (o:=.cells #[.string a0_0,.string a0_1,.slice A0_2 l0_2.length c0_2,.slice A0_3 l0_3.length c0_3] 28 (0,0)) (by (with_reducible repeat (first|refine blk_drewN ?_ _|refine blk_drew ?_|refine blk_alloc ?_ _));exact BK103.out) hb);have n1_:=Aside0.mk (below_step (by repeat (first|(with_reducible first|exact HB.out|apply below_alloc|apply pw_below_drewN|apply below_drew1|refine below_set ?_ GE103.out)|exact HB.out)) hb);clear BK103;clear HB;have BK103:=n0_;have HB:=n1_;clear n0_ n1_;(try clear hb);(try clear hb2);(try clear hk);(try clear hi);have hcz29_0:w28.cell? ⟨gb103,0,none⟩=some (.string a0_0):=(blk_cell BK103.out 0).trans rfl;have hcz29_1:w28.cell? ⟨gb103,1,none⟩=some (.string a0_1):=(blk_cell BK103.out 1).trans rfl;have hcz29_2:w28.cell? ⟨gb103,2,none⟩=some (.slice A0_2 l0_2.length c0_2):=(blk_cell BK103.out 2).trans rfl;have hcz29_3:w28.cell? ⟨gb103,3,none⟩=some (.slice A0_3 l0_3.length c0_3):=(blk_cell BK103.out 3).trans rfl;have hfz29_0:=blk_frozen BK103.out 0;have hfz29_1:=blk_frozen BK103.out 1;have hfz29_2:=blk_frozen BK103.out 2;have hfz29_3:=blk_frozen BK103.out 3)|(go_at_call 58;(with_reducible refine (spec_l1In.calls (l0_2.length:Int) 1 4 false _ A21.out).mono ?_);rintro e w' ⟨rfl,⟨nd,rfl⟩⟩;(try first|exact ⟨rfl,_,World.drewN_drewN _ _ _⟩|exact ⟨rfl,_,Eq.trans (World.drewN_drewN _ _ _) (congrArg (World.drewN _) (Nat.add_assoc _ _ _))⟩)));try go_wp2_with (first|(go_at_call 59;(with_reducible refine (spec_l1AddrOk.calls k1 a0_0 a0_1 true _ A19.out).mono ?_);rintro e w28 ⟨rfl,hb⟩;have n0_:=Aside0.mk (blk_below (g:=gb103) (o:=.cells #[.string a0_0,.string a0_1,.slice A0_2 l0_2.length c0_2,.slice A0_3 l0_3.length c0_3] 28 (0,0)) (by (with_reducible repeat (first|refine blk_drewN ?_ _|refine blk_drew ?_|refine blk_alloc ?_ _));exact BK103.out) hb);have n1_:=Aside0.mk (below_step (by repeat (first|(with_reducible first|exact HB.out|apply below_alloc|apply pw_below_drewN|apply below_drew1|refine below_set ?_ GE103.out)|exact HB.out)) hb);clear BK103;clear HB;have BK103:=n0_;have HB:=n1_;clear n0_ n1_;(try clear hb);(try clear hb2);(try clear hk);(try clear hi);have hcz29_0:w28.cell? ⟨gb103,0,none⟩=some (.string a0_0):=(blk_cell BK103.out 0).trans rfl;have hcz29_1:w28.cell? ⟨gb103,1,none⟩=some (.string a0_1):=(blk_cell BK103.out 1).trans rfl;have hcz29_2:w28.cell? ⟨gb103,2,none⟩=some (.slice A0_2 l0_2.length c0_2):=(blk_cell BK103.out 2).trans rfl;have hcz29_3:w28.cell? ⟨gb103,3,none⟩=some (.slice A0_3 l0_3.length c0_3):=(blk_cell BK103.out 3).trans rfl;have hfz29_0:=blk_frozen BK103.out 0;have hfz29_1:=blk_frozen BK103.out 1;have hfz29_2:=blk_frozen BK103.out 2;have hfz29_3:=blk_frozen BK103.out 3)|(go_at_call 58;(with_reducible refine (spec_l1In.calls (l0_2.length:Int) 1 4 false _ A21.out).mono ?_);rintro e w' ⟨rfl,⟨nd,rfl⟩⟩;(try first|exact ⟨rfl,_,World.drewN_drewN _ _ _⟩|exact ⟨rfl,_,Eq.trans (World.drewN_drewN _ _ _) (congrArg (World.drewN _) (Nat.add_assoc _ _ _))⟩))))
            go_ret
            exact ⟨by first|rfl|(simp [errW_none,errW_some]<;>rfl)|(simp [*,errW_none,errW_some]<;>rfl),by repeat (first|(with_reducible first|exact HB.out|apply below_alloc|apply pw_below_drewN|apply below_drew1|refine below_set ?_ GE103.out)|exact HB.out)⟩
        · replace c20:=Bool.eq_false_iff.mpr c20
          subst c20
          have H1:((spec_l1Null.f a0_0 a0_1).bind fun t111=>(if t111=true then ((spec_l1In.f (l0_2.length:Int) 1 4).bind fun t112=>(if t112=true then ((spec_l2BodyOk.f k1 l0_3).bind fun t113=>(some t113)) else (some false))) else (some false)))=some r:=by rw [if_neg (show ¬ (false=true) by decide)] at H;exact H
          clear H
          have H:=H1
          clear H1
          replace H:=Option.bind_eq_some_iff.mp H
          obtain ⟨t111,A300,H⟩:=H
          replace H:(if t111=true then ((spec_l1In.f (l0_2.length:Int) 1 4).bind fun t112=>(if t112=true then ((spec_l2BodyOk.f k1 l0_3).bind fun t113=>(some t113)) else (some false))) else (some false))=some r:=H
          have A30:=Aside0.mk A300
          clear A300
          by_cases c31:t111=true
          · subst c31
            have H1:((spec_l1In.f (l0_2.length:Int) 1 4).bind fun t112=>(if t112=true then ((spec_l2BodyOk.f k1 l0_3).bind fun t113=>(some t113)) else (some false)))=some r:=by rw [if_pos rfl] at H;exact H
            clear H
            have H:=H1
            clear H1
            replace H:=Option.bind_eq_some_iff.mp H
            obtain ⟨t112,A320,H⟩:=H
            replace H:(if t112=true then ((spec_l2BodyOk.f k1 l0_3).bind fun t113=>(some t113)) else (some false))=some r:=H
            have A32:=Aside0.mk A320
            clear A320
            by_cases c33:t112=true
            · subst c33
              have H1:((spec_l2BodyOk.f k1 l0_3).bind fun t113=>(some t113))=some r:=by rw [if_pos rfl] at H;exact H
              clear H
              have H:=H1
              clear H1
              replace H:=Option.bind_eq_some_iff.mp H
              obtain ⟨t113,A340,H⟩:=H
              replace H:(some t113)=some r:=H
              have A34:=Aside0.mk A340
              clear A340
              obtain rfl:=Option.some.inj H
              have hcz35_0:wr.cell? ⟨gb103,0,none⟩=some (.string a0_0):=(blk_cell BK103.out 0).trans rfl
              have hcz35_1:wr.cell? ⟨gb103,1,none⟩=some (.string a0_1):=(blk_cell BK103.out 1).trans rfl
              have hcz35_2:wr.cell? ⟨gb103,2,none⟩=some (.slice A0_2 l0_2.length c0_2):=(blk_cell BK103.out 2).trans rfl
              have hcz35_3:wr.cell? ⟨gb103,3,none⟩=some (.slice A0_3 l0_3.length c0_3):=(blk_cell BK103.out 3).trans rfl
              have hfz35_0:=blk_frozen BK103.out 0
              have hfz35_1:=blk_frozen BK103.out 1
              have hfz35_2:=blk_frozen BK103.out 2
              have hfz35_3:=blk_frozen BK103.out 3
              go_wp2_with (first|(go_at_call 59;(with_reducible refine (spec_l1AddrOk.calls k1 a0_0 a0_1 false _ A19.out).mono ?_);rintro e w36 ⟨rfl,hb⟩;have n0_:=Aside0.mk (blk_below (g:=gb103) (o:=.cells #[.string a0_0,.string a0_1,.slice A0_2 l0_2.length c0_2,.slice A0_3 l0_3.length c0_3] 28 (0,0)) (by (with_reducible repeat (first|refine blk_drewN ?_ _|refine blk_drew ?_|refine blk_alloc ?_ _));exact BK103.out) hb);have n1_:=Aside0.mk (below_step (by repeat (first|(with_reducible first|exact HB.out|apply below_alloc|apply pw_below_drewN|apply below_drew1|refine below_set ?_ GE103.out)|exact HB.out)) hb);clear BK103;clear HB;have BK103:=n0_;have HB:=n1_;clear n0_ n1_;(try clear hb);(try clear hb2);(try clear hk);(try clear hi);have hcz37_0:w36.cell? ⟨gb103,0,none⟩=some (.string a0_0):=(blk_cell BK103.out 0).trans rfl;have hcz37_1:w36.cell? ⟨gb103,1,none⟩=some (.string a0_1):=(blk_cell BK103.out 1).trans rfl;have hcz37_2:w36.cell? ⟨gb103,2,none⟩=some (.slice A0_2 l0_2.length c0_2):=(blk_cell BK103.out 2).trans rfl;have hcz37_3:w36.cell? ⟨gb103,3,none⟩=some (.slice A0_3 l0_3.length c0_3):=(blk_cell BK103.out 3).trans rfl;have hfz37_0:=blk_frozen BK103.out 0;have hfz37_1:=blk_frozen BK103.out 1;have hfz37_2:=blk_frozen BK103.out 2;have hfz37_3:=blk_frozen BK103.out 3)|(go_at_call 56;(with_reducible refine (spec_l1Null.calls a0_0 a0_1 true _ A30.out).mono ?_);rintro e w38 ⟨rfl,hb⟩;have n0_:=Aside0.mk (blk_below (g:=gb103) (o:=.cells #[.string a0_0,.string a0_1,.slice A0_2 l0_2.length c0_2,.slice A0_3 l0_3.length c0_3] 28 (0,0)) (by (with_reducible repeat (first|refine blk_drewN ?_ _|refine blk_drew ?_|refine blk_alloc ?_ _));exact BK103.out) hb);have n1_:=Aside0.mk (below_step (by repeat (first|(with_reducible first|exact HB.out|apply below_alloc|apply pw_below_drewN|apply below_drew1|refine below_set ?_ GE103.out)|exact HB.out)) hb);clear BK103;clear HB;have BK103:=n0_;have HB:=n1_;clear n0_ n1_;(try clear hb);(try clear hb2);(try clear hk);(try clear hi);have hcz39_0:w38.cell? ⟨gb103,0,none⟩=some (.string a0_0):=(blk_cell BK103.out 0).trans rfl;have hcz39_1:w38.cell? ⟨gb103,1,none⟩=some (.string a0_1):=(blk_cell BK103.out 1).trans rfl;have hcz39_2:w38.cell? ⟨gb103,2,none⟩=some (.slice A0_2 l0_2.length c0_2):=(blk_cell BK103.out 2).trans rfl;have hcz39_3:w38.cell? ⟨gb103,3,none⟩=some (.slice A0_3 l0_3.length c0_3):=(blk_cell BK103.out 3).trans rfl;have hfz39_0:=blk_frozen BK103.out 0;have hfz39_1:=blk_frozen BK103.out 1;have hfz39_2:=blk_frozen BK103.out 2;have hfz39_3:=blk_frozen BK103.out 3)|(go_at_call 58;(with_reducible refine (spec_l1In.calls (l0_2.length:Int) 1 4 true _ A32.out).mono ?_);rintro e w' ⟨rfl,⟨nd,rfl⟩⟩;(try first|exact ⟨rfl,_,World.drewN_drewN _ _ _⟩|exact ⟨rfl,_,Eq.trans (World.drewN_drewN _ _ _) (congrArg (World.drewN _) (Nat.add_assoc _ _ _))⟩))|(go_at_call 107;(with_reducible refine (spec_l2BodyOk.calls k1 _ _ l0_3 t113 _ ?side1 ?side2 A34.out).mono ?_);(case side1=>repeat (first|exact (Kd.C_below HR0_3.out (by repeat (first|(with_reducible first|exact HB.out|apply below_alloc|apply pw_below_drewN|apply below_drew1|refine below_set ?_ GE103.out)|exact HB.out)))|(with_reducible refine Kd.C_alloc ?_ _)|(with_reducible refine Kd.C_drewN ?_ _)|(with_reducible refine Kd.C_drew ?_)));(case side2=>exact HC0_3.out);rintro e w' ⟨rfl,⟨nd,rfl⟩⟩;(try first|exact ⟨rfl,_,World.drewN_drewN _ _ _⟩|exact ⟨rfl,_,Eq.trans (World.drewN_drewN _ _ _) (congrArg (World.drewN _) (Nat.add_assoc _ _ _))⟩)))
              repeat (go_quiet (first|(go_at_call 59;(with_reducible refine (spec_l1AddrOk.calls k1 a0_0 a0_1 false _ A19.out).mono ?_);rintro e w36 ⟨rfl,hb⟩;have n0_:=Aside0.mk (blk_below (g:=gb103) (o:=.cells #[.string a0_0,.string a0_1,.slice A0_2 l0_2.length c0_2,.slice A0_3 l0_3.length c0_3] 28 (0,0)) (by (with_reducible repeat (first|refine blk_drewN ?_ _|refine blk_drew ?_|refine blk_alloc ?_ _));exact BK103.out) hb);have n1_:=Aside0.mk (below_step (by repeat (first|(with_reducible first|exact HB.out|apply below_alloc|apply pw_below_drewN|apply below_drew1|refine below_set ?_ GE103.out)|exact HB.out)) hb);clear BK103;clear HB;have BK103:=n0_;have HB:=n1_;clear n0_ n1_;(try clear hb);(try clear hb2);(try clear hk);(try clear hi);have hcz37_0:w36.cell? ⟨gb103,0,none⟩=some (.string a0_0):=(blk_cell BK103.out 0).trans rfl;have hcz37_1:w36.cell? ⟨gb103,1,none⟩=some (.string a0_1):=(blk_cell BK103.out 1).trans rfl;have hcz37_2:w36.cell? ⟨gb103,2,none⟩=some (.slice A0_2 l0_2.length c0_2):=(blk_cell BK103.out 2).trans rfl;have hcz37_3:w36.cell? ⟨gb103,3,none⟩=some (.slice A0_3 l0_3.length c0_3):=(blk_cell BK103.out 3).trans rfl;have hfz37_0:=blk_frozen BK103.out 0;have hfz37_1:=blk_frozen BK103.out 1;have hfz37_2:=blk_frozen BK103.out 2;have hfz37_3:=blk_frozen BK103.out 3)|(go_at_call 56;(with_reducible refine (spec_l1Null.calls a0_0 a0_1 true _ A30.out).mono ?_);rintro e w38 ⟨rfl,hb⟩;have n0_:=Aside0.mk (blk_below (g:=gb103) (o:=.cells #[.string a0_0,.string a0_1,.slice A0_2 l0_2.length c0_2,.slice A0_3 l0_3.length c0_3] 28 (0,0)) (by (with_reducible repeat (first|refine blk_drewN ?_ _|refine blk_drew ?_|refine blk_alloc ?_ _));exact BK103.out) hb);have n1_:=Aside0.mk (below_step (by repeat (first|(with_reducible first|exact HB.out|apply below_alloc|apply pw_below_drewN|apply below_drew1|refine below_set ?_ GE103.out)|exact HB.out)) hb);clear BK103;clear HB;have BK103:=n0_;have HB:=n1_;clear n0_ n1_;(try clear hb);(try clear hb2);(try clear hk);(try clear hi);have hcz39_0:w38.cell? ⟨gb103,0,none⟩=some (.string a0_0):=(blk_cell BK103.out 0).trans rfl;have hcz39_1:w38.cell? ⟨gb103,1,none⟩=some (.string a0_1):=(blk_cell BK103.out 1).trans rfl;have hcz39_2:w38.cell? ⟨gb103,2,none⟩=some (.slice A0_2 l0_2.length c0_2):=(blk_cell BK103.out 2).trans rfl;have hcz39_3:w38.cell? ⟨gb103,3,none⟩=some (.slice A0_3 l0_3.length c0_3):=(blk_cell BK103.out 3).trans rfl;have hfz39_0:=blk_frozen BK103.out 0;have hfz39_1:=blk_frozen BK103.out 1;have hfz39_2:=blk_frozen BK103.out 2;have hfz39_3:=blk_frozen BK103.out 3)|(go_at_call 58;(with_reducible refine (spec_l1In.calls (l0_2.length:Int) 1 4 true _ A32.out).mono ?_);rintro e w' ⟨rfl,⟨nd,rfl⟩⟩;(try first|exact ⟨rfl,_,World.drewN_drewN _ _ _⟩|exact ⟨rfl,_,Eq.trans (World.drewN_drewN _ _ _) (congrArg (World.drewN _) (Nat.add_assoc _ _ _))⟩))|(go_at_call 107;(with_reducible refine (spec_l2BodyOk.calls k1 _ _ l0_3 t113 _ ?side1 ?side2 A34.out).mono ?_);(case side1=>repeat (first|exact (Kd.C_below HR0_3.out (by repeat (first|(with_reducible first|exact HB.out|apply below_alloc|apply pw_below_drewN|apply below_drew1|refine below_set ?_ GE103.out)|exact HB.out)))|(with_reducible refine Kd.C_alloc ?_ _)|(with_reducible refine Kd.C_drewN ?_ _)|(with_reducible refine Kd.C_drew ?_)));(case side2=>exact HC0_3.out);rintro e w' ⟨rfl,⟨nd,rfl⟩⟩;(try first|exact ⟨rfl,_,World.drewN_drewN _ _ _⟩|exact ⟨rfl,_,Eq.trans (World.drewN_drewN _ _ _) (congrArg (World.drewN _) (Nat.add_assoc _ _ _))⟩)));try go_wp2_with (first|(go_at_call 59;(with_reducible refine (spec_l1AddrOk.calls k1 a0_0 a0_1 false _ A19.out).mono ?_);rintro e w36 ⟨rfl,hb⟩;have n0_:=Aside0.mk (blk_below (g:=gb103) (o:=.cells #[.string a0_0,.string a0_1,.slice A0_2 l0_2.length c0_2,.slice A0_3 l0_3.length c0_3] 28 (0,0)) (by (with_reducible repeat (first|refine blk_drewN ?_ _|refine blk_drew ?_|refine blk_alloc ?_ _));exact BK103.out) hb);have n1_:=Aside0.mk (below_step (by repeat (first|(with_reducible first|exact HB.out|apply below_alloc|apply pw_below_drewN|apply below_drew1|refine below_set ?_ GE103.out)|exact HB.out)) hb);clear BK103;clear HB;have BK103:=n0_;have HB:=n1_;clear n0_ n1_;(try clear hb);(try clear hb2);(try clear hk);(try clear hi);have hcz37_0:w36.cell? ⟨gb103,0,none⟩=some (.string a0_0):=(blk_cell BK103.out 0).trans rfl;have hcz37_1:w36.cell? ⟨gb103,1,none⟩=some (.string a0_1):=(blk_cell BK103.out 1).trans rfl;have hcz37_2:w36.cell? ⟨gb103,2,none⟩=some (.slice A0_2 l0_2.length c0_2):=(blk_cell BK103.out 2).trans rfl;have hcz37_3:w36.cell? ⟨gb103,3,none⟩=some (.slice A0_3 l0_3.length c0_3):=(blk_cell BK103.out 3).trans rfl;have hfz37_0:=blk_frozen BK103.out 0;have hfz37_1:=blk_frozen BK103.out 1;have hfz37_2:=blk_frozen BK103.out 2;have hfz37_3:=blk_frozen BK103.out 3)|(go_at_call 56;(with_reducible refine (spec_l1Null.calls a0_0 a0_1 true _ A30.out).mono ?_);rintro e w38 ⟨rfl,hb⟩;have n0_:=Aside0.mk (blk_below (g:=gb103) (o:=.cells #[.string a0_0,.string a0_1,.slice A0_2 l0_2.length c0_2,.slice A0_3 l0_3.length c0_3] 28 (0,0)) (by (with_reducible repeat (first|refine blk_drewN ?_ _|refine blk_drew ?_|refine blk_alloc ?_ _));exact BK103.out) hb);have n1_:=Aside0.mk (below_step (by repeat (first|(with_reducible first|exact HB.out|apply below_alloc|apply pw_below_drewN|apply below_drew1|refine below_set ?_ GE103.out)|exact HB.out)) hb);clear BK103;clear HB;have BK103:=n0_;have HB:=n1_;clear n0_ n1_;(try clear hb);(try clear hb2);(try clear hk);(try clear hi);have hcz39_0:w38.cell? ⟨gb103,0,none⟩=some (.string a0_0):=(blk_cell BK103.out 0).trans rfl;have hcz39_1:w38.cell? ⟨gb103,1,none⟩=some (.string a0_1):=(blk_cell BK103.out 1).trans rfl;have hcz39_2:w38.cell? ⟨gb103,2,none⟩=some (.slice A0_2 l0_2.length c0_2):=(blk_cell BK103.out 2).trans rfl;have hcz39_3:w38.cell? ⟨gb103,3,none⟩=some (.slice A0_3 l0_3.length c0_3):=(blk_cell BK103.out 3).trans rfl;have hfz39_0:=blk_frozen BK103.out 0;have hfz39_1:=blk_frozen BK103.out 1;have hfz39_2:=blk_frozen BK103.out 2;have hfz39_3:=blk_frozen BK103.out 3)|(go_at_call 58;(with_reducible refine (spec_l1In.calls (l0_2.length:Int) 1 4 true _ A32.out).mono ?_);rintro e w' ⟨rfl,⟨nd,rfl⟩⟩;(try first|exact ⟨rfl,_,World.drewN_drewN _ _ _⟩|exact ⟨rfl,_,Eq.trans (World.drewN_drewN _ _ _) (congrArg (World.drewN _) (Nat.add_assoc _ _ _))⟩))|(go_at_call 107;(with_reducible refine (spec_l2BodyOk.calls k1 _ _ l0_3 t113 _ ?side1 ?side2 A34.out).mono ?_);(case side1=>repeat (first|exact (Kd.C_below HR0_3.out (by repeat (first|(with_reducible first|exact HB.out|apply below_alloc|apply pw_below_drewN|apply below_drew1|refine below_set ?_ GE103.out)|exact HB.out)))|(with_reducible refine Kd.C_alloc ?_ _)|(with_reducible refine Kd.C_drewN ?_ _)|(with_reducible refine Kd.C_drew ?_)));(case side2=>exact HC0_3.out);rintro e w' ⟨rfl,⟨nd,rfl⟩⟩;(try first|exact ⟨rfl,_,World.drewN_drewN _ _ _⟩|exact ⟨rfl,_,Eq.trans (World.drewN_drewN _ _ _) (congrArg (World.drewN _) (Nat.add_assoc _ _ _))⟩))))
              go_ret
              exact ⟨by first|rfl|(simp [errW_none,errW_some]<;>rfl)|(simp [*,errW_none,errW_some]<;>rfl),by repeat (first|(with_reducible first|exact HB.out|apply below_alloc|apply pw_below_drewN|apply below_drew1|refine below_set ?_ GE103.out)|exact HB.out)⟩
            · replace c33:=Bool.eq_false_iff.mpr c33
              subst c33
              have H1:(some false)=some r:=by rw [if_neg (show ¬ (false=true) by decide)] at H;exact H
              clear H
              have H:=H1
              clear H1
              obtain rfl:=Option.some.inj H
              have hcz40_0:wr.cell? ⟨gb103,0,none⟩=some (.string a0_0):=(blk_cell BK103.out 0).trans rfl
              have hcz40_1:wr.cell? ⟨gb103,1,none⟩=some (.string a0_1):=(blk_cell BK103.out 1).trans rfl
              have hcz40_2:wr.cell? ⟨gb103,2,none⟩=some (.slice A0_2 l0_2.length c0_2):=(blk_cell BK103.out 2).trans rfl
              have hcz40_3:wr.cell? ⟨gb103,3,none⟩=some (.slice A0_3 l0_3.length c0_3):=(blk_cell BK103.out 3).trans rfl
              have hfz40_0:=blk_frozen BK103.out 0
              have hfz40_1:=blk_frozen BK103.out 1
              have hfz40_2:=blk_frozen BK103.out 2
              have hfz40_3:=blk_frozen BK103.out 3
              go_wp2_with (first|(go_at_call 59;(with_reducible refine (spec_l1AddrOk.calls k1 a0_0 a0_1 false _ A19.out).mono ?_);rintro e w41 ⟨rfl,hb⟩;have n0_:=Aside0.mk (blk_below (g:=gb103) (o:=.cells #[.string a0_0,.string a0_1,.slice A0_2 l0_2.length c0_2,.slice A0_3 l0_3.length c0_3] 28 (0,0)) (by (with_reducible repeat (first|refine blk_drewN ?_ _|refine blk_drew ?_|refine blk_alloc ?_ _));exact BK103.out) hb);have n1_:=Aside0.mk (below_step (by repeat (first|(with_reducible first|exact HB.out|apply below_alloc|apply pw_below_drewN|apply below_drew1|refine below_set ?_ GE103.out)|exact HB.out)) hb);clear BK103;clear HB;have BK103:=n0_;have HB:=n1_;clear n0_ n1_;(try clear hb);(try clear hb2);(try clear hk);(try clear hi);have hcz42_0:w41.cell? ⟨gb103,0,none⟩=some (.string a0_0):=(blk_cell BK103.out 0).trans rfl;have hcz42_1:w41.cell? ⟨gb103,1,none⟩=some (.string a0_1):=(blk_cell BK103.out 1).trans rfl;have hcz42_2:w41.cell? ⟨gb103,2,none⟩=some (.slice A0_2 l0_2.length c0_2):=(blk_cell BK103.out 2).trans rfl;have hcz42_3:w41.cell? ⟨gb103,3,none⟩=some (.slice A0_3 l0_3.length c0_3):=(blk_cell BK103.out 3).trans rfl;have hfz42_0:=blk_frozen BK103.out 0;have hfz42_1:=blk_frozen BK103.out 1;have hfz42_2:=blk_frozen BK103.out 2;have hfz42_3:=blk_frozen BK103.out 3)|(go_at_call 56;(with_reducible refine (spec_l1Null.calls a0_0 a0_1 true _ A30.out).mono ?_);rintro e w43 ⟨rfl,hb⟩;have n0_:=Aside0.mk (blk_below (g:=gb103) (o:=.cells #[.string a0_0,.string a0_1,.slice A0_2 l0_2.length c0_2,.slice A0_3 l0_3.length c0_3] 28 (0,0)) (by (with_reducible repeat (first|refine blk_drewN ?_ _|refine blk_drew ?_|refine blk_alloc ?_ _));exact BK103.out) hb);have n1_:=Aside0.mk (below_step (by repeat (first|(with_reducible first|exact HB.out|apply below_alloc|apply pw_below_drewN|apply below_drew1|refine below_set ?_ GE103.out)|exact HB.out)) hb);clear BK103;clear HB;have BK103:=n0_;have HB:=n1_;clear n0_ n1_;(try clear hb);(try clear hb2);(try clear hk);(try clear hi);have hcz44_0:w43.cell? ⟨gb103,0,none⟩=some (.string a0_0):=(blk_cell BK103.out 0).trans rfl;have hcz44_1:w43.cell? ⟨gb103,1,none⟩=some (.string a0_1):=(blk_cell BK103.out 1).trans rfl;have hcz44_2:w43.cell? ⟨gb103,2,none⟩=some (.slice A0_2 l0_2.length c0_2):=(blk_cell BK103.out 2).trans rfl;have hcz44_3:w43.cell? ⟨gb103,3,none⟩=some (.slice A0_3 l0_3.length c0_3):=(blk_cell BK103.out 3).trans rfl;have hfz44_0:=blk_frozen BK103.out 0;have hfz44_1:=blk_frozen BK103.out 1;have hfz44_2:=blk_frozen BK103.out 2;have hfz44_3:=blk_frozen BK103.out 3)|(go_at_call 58;(with_reducible refine (spec_l1In.calls (l0_2.length:Int) 1 4 false _ A32.out).mono ?_);rintro e w' ⟨rfl,⟨nd,rfl⟩⟩;(try first|exact ⟨rfl,_,World.drewN_drewN _ _ _⟩|exact ⟨rfl,_,Eq.trans (World.drewN_drewN _ _ _) (congrArg (World.drewN _) (Nat.add_assoc _ _ _))⟩)))
              repeat (go_quiet (first|(go_at_call 59;(with_reducible refine (spec_l1AddrOk.calls k1 a0_0 a0_1 false _ A19.out).mono ?_);rintro e w41 ⟨rfl,hb⟩;have n0_:=Aside0.mk (blk_below (g:=gb103) (o:=.cells #[.string a0_0,.string a0_1,.slice A0_2 l0_2.length c0_2,.slice A0_3 l0_3.length c0_3] 28 (0,0)) (by (with_reducible repeat (first|refine blk_drewN ?_ _|refine blk_drew ?_|refine blk_alloc ?_ _));exact BK103.out) hb);have n1_:=Aside0.mk (below_step (by repeat (first|(with_reducible first|exact HB.out|apply below_alloc|apply pw_below_drewN|apply below_drew1|refine below_set ?_ GE103.out)|exact HB.out)) hb);clear BK103;clear HB;have BK103:=n0_;have HB:=n1_;clear n0_ n1_;(try clear hb);(try clear hb2);(try clear hk);(try clear hi);have hcz42_0:w41.cell? ⟨gb103,0,none⟩=some (.string a0_0):=(blk_cell BK103.out 0).trans rfl;have hcz42_1:w41.cell? ⟨gb103,1,none⟩=some (.string a0_1):=(blk_cell BK103.out 1).trans rfl;have hcz42_2:w41.cell? ⟨gb103,2,none⟩=some (.slice A0_2 l0_2.length c0_2):=(blk_cell BK103.out 2).trans rfl;have hcz42_3:w41.cell? ⟨gb103,3,none⟩=some (.slice A0_3 l0_3.length c0_3):=(blk_cell BK103.out 3).trans rfl;have hfz42_0:=blk_frozen BK103.out 0;have hfz42_1:=blk_frozen BK103.out 1;have hfz42_2:=blk_frozen BK103.out 2;have hfz42_3:=blk_frozen BK103.out 3)|(go_at_call 56;(with_reducible refine (spec_l1Null.calls a0_0 a0_1 true _ A30.out).mono ?_);rintro e w43 ⟨rfl,hb⟩;have n0_:=Aside0.mk (blk_below (g:=gb103) (o:=.cells #[.string a0_0,.string a0_1,.slice A0_2 l0_2.length c0_2,.slice A0_3 l0_3.length c0_3] 28 (0,0)) (by (with_reducible repeat (first|refine blk_drewN ?_ _|refine blk_drew ?_|refine blk_alloc ?_ _));exact BK103.out) hb);have n1_:=Aside0.mk (below_step (by repeat (first|(with_reducible first|exact HB.out|apply below_alloc|apply pw_below_drewN|apply below_drew1|refine below_set ?_ GE103.out)|exact HB.out)) hb);clear BK103;clear HB;have BK103:=n0_;have HB:=n1_;clear n0_ n1_;(try clear hb);(try clear hb2);(try clear hk);(try clear hi);have hcz44_0:w43.cell? ⟨gb103,0,none⟩=some (.string a0_0):=(blk_cell BK103.out 0).trans rfl;have hcz44_1:w43.cell? ⟨gb103,1,none⟩=some (.string a0_1):=(blk_cell BK103.out 1).trans rfl;have hcz44_2:w43.cell? ⟨gb103,2,none⟩=some (.slice A0_2 l0_2.length c0_2):=(blk_cell BK103.out 2).trans rfl;have hcz44_3:w43.cell? ⟨gb103,3,none⟩=some (.slice A0_3 l0_3.length c0_3):=(blk_cell BK103.out 3).trans rfl;have hfz44_0:=blk_frozen BK103.out 0;have hfz44_1:=blk_frozen BK103.out 1;have hfz44_2:=blk_frozen BK103.out 2;have hfz44_3:=blk_frozen BK103.out 3)|(go_at_call 58;(with_reducible refine (spec_l1In.calls (l0_2.length:Int) 1 4 false _ A32.out).mono ?_);rintro e w' ⟨rfl,⟨nd,rfl⟩⟩;(try first|exact ⟨rfl,_,World.drewN_drewN _ _ _⟩|exact ⟨rfl,_,Eq.trans (World.drewN_drewN _ _ _) (congrArg (World.drewN _) (Nat.add_assoc _ _ _))⟩)));try go_wp2_with (first|(go_at_call 59;(with_reducible refine (spec_l1AddrOk.calls k1 a0_0 a0_1 false _ A19.out).mono ?_);rintro e w41 ⟨rfl,hb⟩;have n0_:=Aside0.mk (blk_below (g:=gb103) (o:=.cells #[.string a0_0,.string a0_1,.slice A0_2 l0_2.length c0_2,.slice A0_3 l0_3.length c0_3] 28 (0,0)) (by (with_reducible repeat (first|refine blk_drewN ?_ _|refine blk_drew ?_|refine blk_alloc ?_ _));exact BK103.out) hb);have n1_:=Aside0.mk (below_step (by repeat (first|(with_reducible first|exact HB.out|apply below_alloc|apply pw_below_drewN|apply below_drew1|refine below_set ?_ GE103.out)|exact HB.out)) hb);clear BK103;clear HB;have BK103:=n0_;have HB:=n1_;clear n0_ n1_;(try clear hb);(try clear hb2);(try clear hk);(try clear hi);have hcz42_0:w41.cell? ⟨gb103,0,none⟩=some (.string a0_0):=(blk_cell BK103.out 0).trans rfl;have hcz42_1:w41.cell? ⟨gb103,1,none⟩=some (.string a0_1):=(blk_cell BK103.out 1).trans rfl;have hcz42_2:w41.cell? ⟨gb103,2,none⟩=some (.slice A0_2 l0_2.length c0_2):=(blk_cell BK103.out 2).trans rfl;have hcz42_3:w41.cell? ⟨gb103,3,none⟩=some (.slice A0_3 l0_3.length c0_3):=(blk_cell BK103.out 3).trans rfl;have hfz42_0:=blk_frozen BK103.out 0;have hfz42_1:=blk_frozen BK103.out 1;have hfz42_2:=blk_frozen BK103.out 2;have hfz42_3:=blk_frozen BK103.out 3)|(go_at_call 56;(with_reducible refine (spec_l1Null.calls a0_0 a0_1 true _ A30.out).mono ?_);rintro e w43 ⟨rfl,hb⟩;have n0_:=Aside0.mk (blk_below (g:=gb103) (o:=.cells #[.string a0_0,.string a0_1,.slice A0_2 l0_2.length c0_2,.slice A0_3 l0_3.length c0_3] 28 (0,0)) (by (with_reducible repeat (first|refine blk_drewN ?_ _|refine blk_drew ?_|refine blk_alloc ?_ _));exact BK103.out) hb);have n1_:=Aside0.mk (below_step (by repeat (first|(with_reducible first|exact HB.out|apply below_alloc|apply pw_below_drewN|apply below_drew1|refine below_set ?_ GE103.out)|exact HB.out)) hb);clear BK103;clear HB;have BK103:=n0_;have HB:=n1_;clear n0_ n1_;(try clear hb);(try clear hb2);(try clear hk);(try clear hi);have hcz44_0:w43.cell? ⟨gb103,0,none⟩=some (.string a0_0):=(blk_cell BK103.out 0).trans rfl;have hcz44_1:w43.cell? ⟨gb103,1,none⟩=some (.string a0_1):=(blk_cell BK103.out 1).trans rfl;have hcz44_2:w43.cell? ⟨gb103,2,none⟩=some (.slice A0_2 l0_2.length c0_2):=(blk_cell BK103.out 2).trans rfl;have hcz44_3:w43.cell? ⟨gb103,3,none⟩=some (.slice A0_3 l0_3.length c0_3):=(blk_cell BK103.out 3).trans rfl;have hfz44_0:=blk_frozen BK103.out 0;have hfz44_1:=blk_frozen BK103.out 1;have hfz44_2:=blk_frozen BK103.out 2;have hfz44_3:=blk_frozen BK103.out 3)|(go_at_call 58;(with_reducible refine (spec_l1In.calls (l0_2.length:Int) 1 4 false _ A32.out).mono ?_);rintro e w' ⟨rfl,⟨nd,rfl⟩⟩;(try first|exact ⟨rfl,_,World.drewN_drewN _ _ _⟩|exact ⟨rfl,_,Eq.trans (World.drewN_drewN _ _ _) (congrArg (World.drewN _) (Nat.add_assoc _ _ _))⟩))))
              go_ret
              exact ⟨by first|rfl|(simp [errW_none,errW_some]<;>rfl)|(simp [*,errW_none,errW_some]<;>rfl),by repeat (first|(with_reducible first|exact HB.out|apply below_alloc|apply pw_below_drewN|apply below_drew1|refine below_set ?_ GE103.out)|exact HB.out)⟩
          · replace c31:=Bool.eq_false_iff.mpr c31
            subst c31
            have H1:(some false)=some r:=by rw [if_neg (show ¬ (false=true) by decide)] at H;exact H
            clear H
            have H:=H1
            clear H1
            obtain rfl:=Option.some.inj H
            have hcz45_0:wr.cell? ⟨gb103,0,none⟩=some (.string a0_0):=(blk_cell BK103.out 0).trans rfl
            have hcz45_1:wr.cell? ⟨gb103,1,none⟩=some (.string a0_1):=(blk_cell BK103.out 1).trans rfl
            have hcz45_2:wr.cell? ⟨gb103,2,none⟩=some (.slice A0_2 l0_2.length c0_2):=(blk_cell BK103.out 2).trans rfl
            have hcz45_3:wr.cell? ⟨gb103,3,none⟩=some (.slice A0_3 l0_3.length c0_3):=(blk_cell BK103.out 3).trans rfl
            have hfz45_0:=blk_frozen BK103.out 0
            have hfz45_1:=blk_frozen BK103.out 1
            have hfz45_2:=blk_frozen BK103.out 2
            have hfz45_3:=blk_frozen BK103.out 3
            go_wp2_with (first|(go_at_call 59;(with_reducible refine (spec_l1AddrOk.calls k1 a0_0 a0_1 false _ A19.out).mono ?_);rintro e w46 ⟨rfl,hb⟩;have n0_:=Aside0.mk (blk_below (g:=gb103) (o:=.cells #[.string a0_0,.string a0_1,.slice A0_2 l0_2.length c0_2,.slice A0_3 l0_3.length c0_3] 28 (0,0)) (by (with_reducible repeat (first|refine blk_drewN ?_ _|refine blk_drew ?_|refine blk_alloc ?_ _));exact BK103.out) hb);have n1_:=Aside0.mk (below_step (by repeat (first|(with_reducible first|exact HB.out|apply below_alloc|apply pw_below_drewN|apply below_drew1|refine below_set ?_ GE103.out)|exact HB.out)) hb);clear BK103;clear HB;have BK103:=n0_;have HB:=n1_;clear n0_ n1_;(try clear hb);(try clear hb2);(try clear hk);(try clear hi);have hcz47_0:w46.cell? ⟨gb103,0,none⟩=some (.string a0_0):=(blk_cell BK103.out 0).trans rfl;have hcz47_1:w46.cell? ⟨gb103,1,none⟩=some (.string a0_1):=(blk_cell BK103.out 1).trans rfl;have hcz47_2:w46.cell? ⟨gb103,2,none⟩=some (.slice A0_2 l0_2.length c0_2):=(blk_cell BK103.out 2).trans rfl;have hcz47_3:w46.cell? ⟨gb103,3,none⟩=some (.slice A0_3 l0_3.length c0_3):=(blk_cell BK103.out 3).trans rfl;have hfz47_0:=blk_frozen BK103.out 0;have hfz47_1:=blk_frozen BK103.out 1;have hfz47_2:=blk_frozen BK103.out 2;have hfz47_3:=blk_frozen BK103.out 3)|(go_at_call 56;(with_reducible refine (spec_l1Null.calls a0_0 a0_1 false _ A30.out).mono ?_);rintro e w48 ⟨rfl,hb⟩;have n0_:=Aside0.mk (blk_below (g:=gb103) (o:=.cells #[.string a0_0,.string a0_1,.slice A0_2 l0_2.length c0_2,.slice A0_3 l0_3.length c0_3] 28 (0,0)) (by (with_reducible repeat (first|refine blk_drewN ?_ _|refine blk_drew ?_|refine blk_alloc ?_ _));exact BK103.out) hb);have n1_:=Aside0.mk (below_step (by repeat (first|(with_reducible first|exact HB.out|apply below_alloc|apply pw_below_drewN|apply below_drew1|refine below_set ?_ GE103.out)|exact HB.out)) hb);clear BK103;clear HB;have BK103:=n0_;have HB:=n1_;clear n0_ n1_;(try clear hb);(try clear hb2);(try clear hk);(try clear hi)))
            repeat (go_quiet (first|(go_at_call 59;(with_reducible refine (spec_l1AddrOk.calls k1 a0_0 a0_1 false _ A19.out).mono ?_);rintro e w46 ⟨rfl,hb⟩;have n0_:=Aside0.mk (blk_below (g:=gb103) (o:=.cells #[.string a0_0,.string a0_1,.slice A0_2 l0_2.length c0_2,.slice A0_3 l0_3.length c0_3] 28 (0,0)) (by (with_reducible repeat (first|refine blk_drewN ?_ _|refine blk_drew ?_|refine blk_alloc ?_ _));exact BK103.out) hb);have n1_:=Aside0.mk (below_step (by repeat (first|(with_reducible first|exact HB.out|apply below_alloc|apply pw_below_drewN|apply below_drew1|refine below_set ?_ GE103.out)|exact HB.out)) hb);clear BK103;clear HB;have BK103:=n0_;have HB:=n1_;clear n0_ n1_;(try clear hb);(try clear hb2);(try clear hk);(try clear hi);have hcz47_0:w46.cell? ⟨gb103,0,none⟩=some (.string a0_0):=(blk_cell BK103.out 0).trans rfl;have hcz47_1:w46.cell? ⟨gb103,1,none⟩=some (.string a0_1):=(blk_cell BK103.out 1).trans rfl;have hcz47_2:w46.cell? ⟨gb103,2,none⟩=some (.slice A0_2 l0_2.length c0_2):=(blk_cell BK103.out 2).trans rfl;have hcz47_3:w46.cell? ⟨gb103,3,none⟩=some (.slice A0_3 l0_3.length c0_3):=(blk_cell BK103.out 3).trans rfl;have hfz47_0:=blk_frozen BK103.out 0;have hfz47_1:=blk_frozen BK103.out 1;have hfz47_2:=blk_frozen BK103.out 2;have hfz47_3:=blk_frozen BK103.out 3)|(go_at_call 56;(with_reducible refine (spec_l1Null.calls a0_0 a0_1 false _ A30.out).mono ?_);rintro e w48 ⟨rfl,hb⟩;have n0_:=Aside0.mk (blk_below (g:=gb103) (o:=.cells #[.string a0_0,.string a0_1,.slice A0_2 l0_2.length c0_2,.slice A0_3 l0_3.length c0_3] 28 (0,0)) (by (with_reducible repeat (first|refine blk_drewN ?_ _|refine blk_drew ?_|refine blk_alloc ?_ _));exact BK103.out) hb);have n1_:=Aside0.mk (below_step (by repeat (first|(with_reducible first|exact HB.out|apply below_alloc|apply pw_below_drewN|apply below_drew1|refine below_set ?_ GE103.out)|exact HB.out)) hb);clear BK103;clear HB;have BK103:=n0_;have HB:=n1_;clear n0_ n1_;(try clear hb);(try clear hb2);(try clear hk);(try clear hi)));try go_wp2_with (first|(go_at_call 59;(with_reducible refine (spec_l1AddrOk.calls k1 a0_0 a0_1 false _ A19.out).mono ?_);rintro e w46 ⟨rfl,hb⟩;have n0_:=Aside0.mk (blk_below (g:=gb103) (o:=.cells #[.string a0_0,.string a0_1,.slice A0_2 l0_2.length c0_2,.slice A0_3 l0_3.length c0_3] 28 (0,0)) (by (with_reducible repeat (first|refine blk_drewN ?_ _|refine blk_drew ?_|refine blk_alloc ?_ _));exact BK103.out) hb);have n1_:=Aside0.mk (below_step (by repeat (first|(with_reducible first|exact HB.out|apply below_alloc|apply pw_below_drewN|apply below_drew1|refine below_set ?_ GE103.out)|exact HB.out)) hb);clear BK103;clear HB;have BK103:=n0_;have HB:=n1_;clear n0_ n1_;(try clear hb);(try clear hb2);(try clear hk);(try clear hi);have hcz47_0:w46.cell? ⟨gb103,0,none⟩=some (.string a0_0):=(blk_cell BK103.out 0).trans rfl;have hcz47_1:w46.cell? ⟨gb103,1,none⟩=some (.string a0_1):=(blk_cell BK103.out 1).trans rfl;have hcz47_2:w46.cell? ⟨gb103,2,none⟩=some (.slice A0_2 l0_2.length c0_2):=(blk_cell BK103.out 2).trans rfl;have hcz47_3:w46.cell? ⟨gb103,3,none⟩=some (.slice A0_3 l0_3.length c0_3):=(blk_cell BK103.out 3).trans rfl;have hfz47_0:=blk_frozen BK103.out 0;have hfz47_1:=blk_frozen BK103.out 1;have hfz47_2:=blk_frozen BK103.out 2;have hfz47_3:=blk_frozen BK103.out 3)|(go_at_call 56;(with_reducible refine (spec_l1Null.calls a0_0 a0_1 false _ A30.out).mono ?_);rintro e w48 ⟨rfl,hb⟩;have n0_:=Aside0.mk (blk_below (g:=gb103) (o:=.cells #[.string a0_0,.string a0_1,.slice A0_2 l0_2.length c0_2,.slice A0_3 l0_3.length c0_3] 28 (0,0)) (by (with_reducible repeat (first|refine blk_drewN ?_ _|refine blk_drew ?_|refine blk_alloc ?_ _));exact BK103.out) hb);have n1_:=Aside0.mk (below_step (by repeat (first|(with_reducible first|exact HB.out|apply below_alloc|apply pw_below_drewN|apply below_drew1|refine below_set ?_ GE103.out)|exact HB.out)) hb);clear BK103;clear HB;have BK103:=n0_;have HB:=n1_;clear n0_ n1_;(try clear hb);(try clear hb2);(try clear hk);(try clear hi))))
            go_ret
            exact ⟨by first|rfl|(simp [errW_none,errW_some]<;>rfl)|(simp [*,errW_none,errW_some]<;>rfl),by repeat (first|(with_reducible first|exact HB.out|apply below_alloc|apply pw_below_drewN|apply below_drew1|refine below_set ?_ GE103.out)|exact HB.out)⟩
end Go.Proofs.YtjdpdkdhfnpcgaaGreatDoor.Q
