/- Of a text of ours what this claim needs. -/
import Derived.Test.YtpeefjfklklhdaaDoorZzFnWayWQ0
import Derived.Test.YtpeefjfklklhdaaDoorZzFnWayWQ3
import Derived.Test.YtpeefjfklklhdaaDoorZzFnWayWQ5
import Derived.Test.YtpeefjfklklhdaaDoorZzFnWayWHSplit
namespace Go.Proofs.YtpeefjfklklhdaaDoor.Q
open Go.RowKit Go.Proofs.YtpeefjfklklhdaaDoorW.PrintWords Go.Proofs.YtpeefjfklklhdaaDoorW.PrintLast Go.Proofs.YtpeefjfklklhdaaDoorW.PrintMore
attribute [local go_sem] max2_int min2_int max_two min_two max_three min_three max_four min_four
set_option linter.unusedVariables false
set_option linter.unusedSimpArgs false
mutual
def spec_l3ConfOk.l0:Nat→Int→ByteArray→List ByteArray→List (S69)→Option (Bool)
  | 0,_,_,_,_=>none
  | k+1,x3,x215000,x215001,x215002=>if x3 < (x215001.length:Int) then (if 0≤x3 then ((spec_l1Domain.f k (rdOf ByteArray.empty x215001 x3)).bind fun t216=>(if t216=true then (spec_l3ConfOk.l0 k (wrap64 (x3+1)) x215000 x215001 x215002) else (some false))) else (none)) else (spec_l3ConfOk.l1 k 0 x215000 x215001 x215002)
def spec_l3ConfOk.l1:Nat→Int→ByteArray→List ByteArray→List (S69)→Option (Bool)
  | 0,_,_,_,_=>none
  | k+1,x4,x215000,x215001,x215002=>if x4 < (x215002.length:Int) then (if 0≤x4 then ((spec_l1Domain.f k ((rd_T69 x215002 x4).f0)).bind fun t219=>(if t219=true then ((spec_l1Domain.f k ((rd_T69 x215002 x4).f1)).bind fun t221=>(if t221=true then (spec_l3ConfOk.l1 k (wrap64 (x4+1)) x215000 x215001 x215002) else (some false))) else (some false))) else (none)) else ((spec_l1Domain.f k x215000).bind fun t217=>(if t217=true then (if (x215001.length:Int)≤3 then (some (decide ((x215002.length:Int)≤4))) else (some false)) else (some false)))
end
def spec_l3ConfOk.f (k:Nat) (a0_0:ByteArray) (l0_1:List ByteArray) (l0_2:List (S69)):Option (Bool):=spec_l3ConfOk.l0 k 0 a0_0 l0_1 l0_2
set_option maxHeartbeats 8000000 in
set_option maxRecDepth 100000 in
theorem spec_l3ConfOk.calls (k:Nat) (a0_0:ByteArray) (A0_1:Option Addr) (c0_1:Nat) (l0_1:List ByteArray) (A0_2:Option Addr) (c0_2:Nat) (l0_2:List (S69)) (r:Bool) (w:World) (hr0_1:Kd.C Kd.string w A0_1 l0_1.length l0_1) (hc0_1:l0_1.length≤c0_1) (hr0_2:Kd.C k69 w A0_2 l0_2.length l0_2) (hc0_2:l0_2.length≤c0_2) (h:spec_l3ConfOk.f k a0_0 l0_1 l0_2=some r) :
    Calls Tryd.prog 81 #[.agg #[.string a0_0,.slice A0_1 l0_1.length c0_1,.slice A0_2 l0_2.length c0_2]] w fun e w'=>e=.returned (.bool r)∧Below w.heap.size w w':=by
  have hu56:=Tryd.underlying56
  have HR0_1:=Aside0.mk hr0_1
  have HC0_1:=Aside0.mk hc0_1
  clear hr0_1 hc0_1
  have HR0_2:=Aside0.mk hr0_2
  have HC0_2:=Aside0.mk hc0_2
  clear hr0_2 hc0_2
  have HB:=Aside0.mk (Below.refl w.heap.size w)
  have H:(spec_l3ConfOk.l0 k 0 a0_0 l0_1 l0_2)=some r:=h
  clear h
  have H':=Aside0.mk H
  clear H
  go_enter Tryd.func81,Tryd.ntmps81
  go_wp2_with (first|((with_reducible refine gate_dst (N:=1) rfl ?_);(try (refine gate_guard (by rfl) ?_;dsimp only));refine box_event ?hg (N:=1) ?hd (cs:=#[.string a0_0,.slice A0_1 l0_1.length c0_1,.slice A0_2 l0_2.length c0_2]) (t:=56) ?hr ?_;(case hd=>rfl);(case hg=>rfl);(case hr=>first|(go_simp;done)|(go_simp;rfl));intro gb214 hg w2 hbox hb;have n0_:=Aside0.mk (below_step (by repeat (first|(with_reducible first|exact HB.out|apply below_alloc|apply pw_below_drewN|apply below_drew1)|exact HB.out)) hb);have n1_:=Aside0.mk (hbox);have n2_:=Aside0.mk ((by rw [hg];exact (below_size (by repeat (first|(with_reducible first|exact HB.out|apply below_alloc|apply pw_below_drewN|apply below_drew1)|exact HB.out))):w.heap.size≤gb214));have n3_:=Aside0.mk ((by rw [hg];exact (below_size (by repeat (first|(with_reducible first|exact HB.out|apply below_alloc|apply pw_below_drewN|apply below_drew1)|exact HB.out))):w.heap.size≤gb214));clear HB;have HB:=n0_;have BK214:=n1_;have GW214:=n2_;have GE214:=n3_;clear n0_ n1_ n2_ n3_;clear hb hbox hg))
  go_loopg [3] k (fun kq v3 w'=>∃ (x3_1:Int),v3=.int .i64 x3_1∧Aside0 (spec_l3ConfOk.l0 kq x3_1 a0_0 l0_1 l0_2=some r)∧Aside0 (kq≤k)∧Aside0 (w'.heap[gb214]?=some (.cells #[.string a0_0,(.slice A0_1 l0_1.length c0_1),(.slice A0_2 l0_2.length c0_2)] 56 (0,0)))∧Aside0 (Below w.heap.size w w'))
  case atStart=>exact ⟨(0),(by first|rfl|(simp;done)|(simp [*];done)),H',⟨Nat.le_refl _⟩,⟨by (with_reducible repeat (first|refine blk_drewN ?_ _|refine blk_drew ?_|refine blk_alloc ?_ _));exact BK214.out⟩,⟨by repeat (first|(with_reducible first|exact HB.out|apply below_alloc|apply pw_below_drewN|apply below_drew1|refine below_set ?_ GE214.out)|exact HB.out)⟩⟩
  case round =>
    clear H'
    try clear p2
    obtain ⟨x3_1,rfl,HA,HK1,BK214,HB⟩:=hrel
    cases gk with
    | zero=>exact absurd HA.out (by simp [spec_l3ConfOk.l0])
    | succ k1 =>
      have H:=HA.out
      clear HA
      simp only [spec_l3ConfOk.l0] at H
      by_cases c3:x3_1 < (l0_1.length:Int)
      · rw [if_pos c3] at H
        have c3b0:decide (x3_1 < (l0_1.length:Int))=true:=decide_eq_true c3
        clear c3
        by_cases c4:0≤x3_1
        · rw [if_pos c4] at H
          have c4b0:decide (0≤x3_1)=true:=decide_eq_true c4
          clear c4
          replace H:=Option.bind_eq_some_iff.mp H
          obtain ⟨t216,A50,H⟩:=H
          replace H:(if t216=true then (spec_l3ConfOk.l0 k1 (wrap64 (x3_1+1)) a0_0 l0_1 l0_2) else (some false))=some r:=H
          have A5:=Aside0.mk A50
          clear A50
          by_cases c6:t216=true
          · subst c6
            have H1:(spec_l3ConfOk.l0 k1 (wrap64 (x3_1+1)) a0_0 l0_1 l0_2)=some r:=by rw [if_pos rfl] at H;exact H
            clear H
            have H:=H1
            clear H1
            have H':=Aside0.mk H
            clear H
            have hcz7_0:wr.cell? ⟨gb214,0,none⟩=some (.string a0_0):=(blk_cell BK214.out 0).trans rfl
            have hcz7_1:wr.cell? ⟨gb214,1,none⟩=some (.slice A0_1 l0_1.length c0_1):=(blk_cell BK214.out 1).trans rfl
            have hcz7_2:wr.cell? ⟨gb214,2,none⟩=some (.slice A0_2 l0_2.length c0_2):=(blk_cell BK214.out 2).trans rfl
            have hfz7_0:=blk_frozen BK214.out 0
            have hfz7_1:=blk_frozen BK214.out 1
            have hfz7_2:=blk_frozen BK214.out 2
            have p215:0≤(x3_1:Int):=of_decide_eq_true (by first|(with_reducible assumption)|assumption)
            have q215:x3_1 < (l0_1.length:Int):=of_decide_eq_true (by first|(with_reducible assumption)|assumption)
            obtain ⟨ad215,e215,hx215_0⟩:=Kd.at_string HR0_1.out x3_1 p215 q215
            cases e215
            replace hx215_0:=(HB.out.cell (World.block_lt_of_cell? w _ hx215_0)).trans hx215_0
            replace p215:=eq_true p215
            replace q215:=eq_true q215
            go_wp2_with (first|((with_reducible refine gate_callee (f:=59) rfl ?_);refine goesL_ (some 17) rfl rfl Tryd.func59 (by kernel_rfl) rfl #[.string (rdOf ByteArray.empty l0_1 x3_1)] rfl (by (try simp only [List.map_toArray,List.map_cons,List.map_nil]);first|done|rfl|(simp only [List.length_drop,List.length_take];rfl)) ?_;(with_reducible refine (spec_l1Domain.calls k1 (rdOf ByteArray.empty l0_1 x3_1) true _ A5.out).mono ?_);rintro e w8 ⟨rfl,hb⟩;refine ⟨_,rfl,?_⟩;have n0_:=Aside0.mk (blk_below (g:=gb214) (o:=.cells #[.string a0_0,.slice (some ad215) l0_1.length c0_1,.slice A0_2 l0_2.length c0_2] 56 (0,0)) (by (with_reducible repeat (first|refine blk_drewN ?_ _|refine blk_drew ?_|refine blk_alloc ?_ _));exact BK214.out) hb);have n1_:=Aside0.mk (below_step (by repeat (first|(with_reducible first|exact HB.out|apply below_alloc|apply pw_below_drewN|apply below_drew1|refine below_set ?_ GE214.out)|exact HB.out)) hb);clear BK214;clear HB;have BK214:=n0_;have HB:=n1_;clear n0_ n1_;(try clear hb);(try clear hb2);(try clear hk);(try clear hi)))
            go_roundg k1
            case measure=>have:=HK1.out;omega
            case rel=>exact ⟨(wrap64 (x3_1+1)),(by first|rfl|(simp;done)|(simp [*];done)),H',⟨by have:=HK1.out;omega⟩,⟨by (with_reducible repeat (first|refine blk_drewN ?_ _|refine blk_drew ?_|refine blk_alloc ?_ _));exact BK214.out⟩,⟨by repeat (first|(with_reducible first|exact HB.out|apply below_alloc|apply pw_below_drewN|apply below_drew1|refine below_set ?_ GE214.out)|exact HB.out)⟩⟩
          · replace c6:=Bool.eq_false_iff.mpr c6
            subst c6
            have H1:(some false)=some r:=by rw [if_neg (show ¬ (false=true) by decide)] at H;exact H
            clear H
            have H:=H1
            clear H1
            obtain rfl:=Option.some.inj H
            have hcz9_0:wr.cell? ⟨gb214,0,none⟩=some (.string a0_0):=(blk_cell BK214.out 0).trans rfl
            have hcz9_1:wr.cell? ⟨gb214,1,none⟩=some (.slice A0_1 l0_1.length c0_1):=(blk_cell BK214.out 1).trans rfl
            have hcz9_2:wr.cell? ⟨gb214,2,none⟩=some (.slice A0_2 l0_2.length c0_2):=(blk_cell BK214.out 2).trans rfl
            have hfz9_0:=blk_frozen BK214.out 0
            have hfz9_1:=blk_frozen BK214.out 1
            have hfz9_2:=blk_frozen BK214.out 2
            have p215:0≤(x3_1:Int):=of_decide_eq_true (by first|(with_reducible assumption)|assumption)
            have q215:x3_1 < (l0_1.length:Int):=of_decide_eq_true (by first|(with_reducible assumption)|assumption)
            obtain ⟨ad215,e215,hx215_0⟩:=Kd.at_string HR0_1.out x3_1 p215 q215
            cases e215
            replace hx215_0:=(HB.out.cell (World.block_lt_of_cell? w _ hx215_0)).trans hx215_0
            replace p215:=eq_true p215
            replace q215:=eq_true q215
            go_wp2_with (first|((with_reducible refine gate_callee (f:=59) rfl ?_);refine goesL_ (some 17) rfl rfl Tryd.func59 (by kernel_rfl) rfl #[.string (rdOf ByteArray.empty l0_1 x3_1)] rfl (by (try simp only [List.map_toArray,List.map_cons,List.map_nil]);first|done|rfl|(simp only [List.length_drop,List.length_take];rfl)) ?_;(with_reducible refine (spec_l1Domain.calls k1 (rdOf ByteArray.empty l0_1 x3_1) false _ A5.out).mono ?_);rintro e w10 ⟨rfl,hb⟩;refine ⟨_,rfl,?_⟩;have n0_:=Aside0.mk (blk_below (g:=gb214) (o:=.cells #[.string a0_0,.slice (some ad215) l0_1.length c0_1,.slice A0_2 l0_2.length c0_2] 56 (0,0)) (by (with_reducible repeat (first|refine blk_drewN ?_ _|refine blk_drew ?_|refine blk_alloc ?_ _));exact BK214.out) hb);have n1_:=Aside0.mk (below_step (by repeat (first|(with_reducible first|exact HB.out|apply below_alloc|apply pw_below_drewN|apply below_drew1|refine below_set ?_ GE214.out)|exact HB.out)) hb);clear BK214;clear HB;have BK214:=n0_;have HB:=n1_;clear n0_ n1_;(try clear hb);(try clear hb2);(try clear hk);(try clear hi)))
            go_ret
            exact ⟨by first|rfl|(simp [errW_none,errW_some]<;>rfl)|(simp [*,errW_none,errW_some]<;>rfl),by repeat (first|(with_reducible first|exact HB.out|apply below_alloc|apply pw_below_drewN|apply below_drew1|refine below_set ?_ GE214.out)|exact HB.out)⟩
        · rw [if_neg c4] at H
          exact absurd H (by simp)
      · rw [if_neg c3] at H
        have c3b0:decide (x3_1 < (l0_1.length:Int))=false:=decide_eq_false c3
        clear c3
        have H':=Aside0.mk H
        clear H
        have hcz11_0:wr.cell? ⟨gb214,0,none⟩=some (.string a0_0):=(blk_cell BK214.out 0).trans rfl
        have hcz11_1:wr.cell? ⟨gb214,1,none⟩=some (.slice A0_1 l0_1.length c0_1):=(blk_cell BK214.out 1).trans rfl
        have hcz11_2:wr.cell? ⟨gb214,2,none⟩=some (.slice A0_2 l0_2.length c0_2):=(blk_cell BK214.out 2).trans rfl
        have hfz11_0:=blk_frozen BK214.out 0
        have hfz11_1:=blk_frozen BK214.out 1
        have hfz11_2:=blk_frozen BK214.out 2
        go_wp2
        go_loopg [4] k1 (fun kq v4 w'=>∃ (x4_2:Int),v4=.int .i64 x4_2∧Aside0 (spec_l3ConfOk.l1 kq x4_2 a0_0 l0_1 l0_2=some r)∧Aside0 (kq≤k1)∧Aside0 (w'.heap[gb214]?=some (.cells #[.string a0_0,(.slice A0_1 l0_1.length c0_1),(.slice A0_2 l0_2.length c0_2)] 56 (0,0)))∧Aside0 (Below w.heap.size w w'))
        case atStart=>exact ⟨(0),(by first|rfl|(simp;done)|(simp [*];done)),H',⟨Nat.le_refl _⟩,⟨by (with_reducible repeat (first|refine blk_drewN ?_ _|refine blk_drew ?_|refine blk_alloc ?_ _));exact BK214.out⟩,⟨by repeat (first|(with_reducible first|exact HB.out|apply below_alloc|apply pw_below_drewN|apply below_drew1|refine below_set ?_ GE214.out)|exact HB.out)⟩⟩
        case round =>
          clear H'
          try clear p2
          try clear q2
          try clear hx2
          try clear c3
          try clear c3b0
          try clear c4
          try clear c4b0
          try clear c5
          try clear c6
          try clear p6
          try clear c8
          try clear hcz11_0
          try clear hcz11_1
          try clear hcz11_2
          try clear hcz7_0
          try clear hcz7_1
          try clear hcz7_2
          try clear hcz9_0
          try clear hcz9_1
          try clear hcz9_2
          try clear hfz11_0
          try clear hfz11_1
          try clear hfz11_2
          try clear hfz7_0
          try clear hfz7_1
          try clear hfz7_2
          try clear hfz9_0
          try clear hfz9_1
          try clear hfz9_2
          try clear hx215_0
          try clear p2
          try clear p215
          try clear q215
          obtain ⟨x4_2,rfl,HA,HK2,BK214,HB⟩:=hrel
          cases gk with
          | zero=>exact absurd HA.out (by simp [spec_l3ConfOk.l1])
          | succ k2 =>
            have H:=HA.out
            clear HA
            simp only [spec_l3ConfOk.l1] at H
            by_cases c12:x4_2 < (l0_2.length:Int)
            · rw [if_pos c12] at H
              have c12b0:decide (x4_2 < (l0_2.length:Int))=true:=decide_eq_true c12
              clear c12
              by_cases c13:0≤x4_2
              · rw [if_pos c13] at H
                have c13b0:decide (0≤x4_2)=true:=decide_eq_true c13
                clear c13
                replace H:=Option.bind_eq_some_iff.mp H
                obtain ⟨t219,A140,H⟩:=H
                replace H:(if t219=true then ((spec_l1Domain.f k2 ((rd_T69 l0_2 x4_2).f1)).bind fun t221=>(if t221=true then (spec_l3ConfOk.l1 k2 (wrap64 (x4_2+1)) a0_0 l0_1 l0_2) else (some false))) else (some false))=some r:=H
                have A14:=Aside0.mk A140
                clear A140
                by_cases c15:t219=true
                · subst c15
                  have H1:((spec_l1Domain.f k2 ((rd_T69 l0_2 x4_2).f1)).bind fun t221=>(if t221=true then (spec_l3ConfOk.l1 k2 (wrap64 (x4_2+1)) a0_0 l0_1 l0_2) else (some false)))=some r:=by rw [if_pos rfl] at H;exact H
                  clear H
                  have H:=H1
                  clear H1
                  replace H:=Option.bind_eq_some_iff.mp H
                  obtain ⟨t221,A160,H⟩:=H
                  replace H:(if t221=true then (spec_l3ConfOk.l1 k2 (wrap64 (x4_2+1)) a0_0 l0_1 l0_2) else (some false))=some r:=H
                  have A16:=Aside0.mk A160
                  clear A160
                  by_cases c17:t221=true
                  · subst c17
                    have H1:(spec_l3ConfOk.l1 k2 (wrap64 (x4_2+1)) a0_0 l0_1 l0_2)=some r:=by rw [if_pos rfl] at H;exact H
                    clear H
                    have H:=H1
                    clear H1
                    have H':=Aside0.mk H
                    clear H
                    have hcz18_0:wr.cell? ⟨gb214,0,none⟩=some (.string a0_0):=(blk_cell BK214.out 0).trans rfl
                    have hcz18_1:wr.cell? ⟨gb214,1,none⟩=some (.slice A0_1 l0_1.length c0_1):=(blk_cell BK214.out 1).trans rfl
                    have hcz18_2:wr.cell? ⟨gb214,2,none⟩=some (.slice A0_2 l0_2.length c0_2):=(blk_cell BK214.out 2).trans rfl
                    have hfz18_0:=blk_frozen BK214.out 0
                    have hfz18_1:=blk_frozen BK214.out 1
                    have hfz18_2:=blk_frozen BK214.out 2
                    have p218:0≤(x4_2:Int):=of_decide_eq_true (by first|(with_reducible assumption)|assumption)
                    have q218:x4_2 < (l0_2.length:Int):=of_decide_eq_true (by first|(with_reducible assumption)|assumption)
                    obtain ⟨ad218,e218,hx218_0,hx218_1⟩:=at_T69 HR0_2.out x4_2 p218 q218
                    cases e218
                    replace hx218_0:=(HB.out.cell (World.block_lt_of_cell? w _ hx218_0)).trans hx218_0
                    replace hx218_1:=(HB.out.cell (World.block_lt_of_cell? w _ hx218_1)).trans hx218_1
                    replace p218:=eq_true p218
                    replace q218:=eq_true q218
                    go_wp2_with (first|((with_reducible refine gate_callee (f:=59) rfl ?_);refine goesL_ (some 32) rfl rfl Tryd.func59 (by kernel_rfl) rfl #[.string ((rd_T69 l0_2 x4_2).f0)] rfl (by (try simp only [List.map_toArray,List.map_cons,List.map_nil]);first|done|rfl|(simp only [List.length_drop,List.length_take];rfl)) ?_;(with_reducible refine (spec_l1Domain.calls k2 ((rd_T69 l0_2 x4_2).f0) true _ A14.out).mono ?_);rintro e w19 ⟨rfl,hb⟩;refine ⟨_,rfl,?_⟩;have n0_:=Aside0.mk (blk_below (g:=gb214) (o:=.cells #[.string a0_0,.slice A0_1 l0_1.length c0_1,.slice (some ad218) l0_2.length c0_2] 56 (0,0)) (by (with_reducible repeat (first|refine blk_drewN ?_ _|refine blk_drew ?_|refine blk_alloc ?_ _));exact BK214.out) hb);have n1_:=Aside0.mk (below_step (by repeat (first|(with_reducible first|exact HB.out|apply below_alloc|apply pw_below_drewN|apply below_drew1|refine below_set ?_ GE214.out)|exact HB.out)) hb);clear BK214;clear HB;have BK214:=n0_;have HB:=n1_;clear n0_ n1_;(try clear hb);(try clear hb2);(try clear hk);(try clear hi);have hcz20_0:w19.cell? ⟨gb214,0,none⟩=some (.string a0_0):=(blk_cell BK214.out 0).trans rfl;have hcz20_1:w19.cell? ⟨gb214,1,none⟩=some (.slice A0_1 l0_1.length c0_1):=(blk_cell BK214.out 1).trans rfl;have hcz20_2:w19.cell? ⟨gb214,2,none⟩=some (.slice (some ad218) l0_2.length c0_2):=(blk_cell BK214.out 2).trans rfl;have hfz20_0:=blk_frozen BK214.out 0;have hfz20_1:=blk_frozen BK214.out 1;have hfz20_2:=blk_frozen BK214.out 2;have p220:0≤(x4_2:Int):=of_decide_eq_true (by first|(with_reducible assumption)|assumption);have q220:x4_2 < (l0_2.length:Int):=of_decide_eq_true (by first|(with_reducible assumption)|assumption);obtain ⟨ad220,e220,hx220_0,hx220_1⟩:=at_T69 HR0_2.out x4_2 p220 q220;obtain rfl:ad218=ad220:=(by injection e220);replace hx220_0:=(HB.out.cell (World.block_lt_of_cell? w _ hx220_0)).trans hx220_0;replace hx220_1:=(HB.out.cell (World.block_lt_of_cell? w _ hx220_1)).trans hx220_1;replace p220:=eq_true p220;replace q220:=eq_true q220)|(go_at_call 59;(with_reducible refine (spec_l1Domain.calls k2 ((rd_T69 l0_2 x4_2).f1) true _ A16.out).mono ?_);rintro e w21 ⟨rfl,hb⟩;have n0_:=Aside0.mk (blk_below (g:=gb214) (o:=.cells #[.string a0_0,.slice A0_1 l0_1.length c0_1,.slice (some ad218) l0_2.length c0_2] 56 (0,0)) (by (with_reducible repeat (first|refine blk_drewN ?_ _|refine blk_drew ?_|refine blk_alloc ?_ _));exact BK214.out) hb);have n1_:=Aside0.mk (below_step (by repeat (first|(with_reducible first|exact HB.out|apply below_alloc|apply pw_below_drewN|apply below_drew1|refine below_set ?_ GE214.out)|exact HB.out)) hb);clear BK214;clear HB;have BK214:=n0_;have HB:=n1_;clear n0_ n1_;(try clear hb);(try clear hb2);(try clear hk);(try clear hi)))
                    go_roundg k2
                    case measure=>have:=HK1.out;have:=HK2.out;omega
                    case rel=>exact ⟨(wrap64 (x4_2+1)),(by first|rfl|(simp;done)|(simp [*];done)),H',⟨by have:=HK1.out;have:=HK2.out;omega⟩,⟨by (with_reducible repeat (first|refine blk_drewN ?_ _|refine blk_drew ?_|refine blk_alloc ?_ _));exact BK214.out⟩,⟨by repeat (first|(with_reducible first|exact HB.out|apply below_alloc|apply pw_below_drewN|apply below_drew1|refine below_set ?_ GE214.out)|exact HB.out)⟩⟩
                  · replace c17:=Bool.eq_false_iff.mpr c17
                    subst c17
                    have H1:(some false)=some r:=by rw [if_neg (show ¬ (false=true) by decide)] at H;exact H
                    clear H
                    have H:=H1
                    clear H1
                    obtain rfl:=Option.some.inj H
                    have hcz22_0:wr.cell? ⟨gb214,0,none⟩=some (.string a0_0):=(blk_cell BK214.out 0).trans rfl
                    have hcz22_1:wr.cell? ⟨gb214,1,none⟩=some (.slice A0_1 l0_1.length c0_1):=(blk_cell BK214.out 1).trans rfl
                    have hcz22_2:wr.cell? ⟨gb214,2,none⟩=some (.slice A0_2 l0_2.length c0_2):=(blk_cell BK214.out 2).trans rfl
                    have hfz22_0:=blk_frozen BK214.out 0
                    have hfz22_1:=blk_frozen BK214.out 1
                    have hfz22_2:=blk_frozen BK214.out 2
                    have p218:0≤(x4_2:Int):=of_decide_eq_true (by first|(with_reducible assumption)|assumption)
                    have q218:x4_2 < (l0_2.length:Int):=of_decide_eq_true (by first|(with_reducible assumption)|assumption)
                    obtain ⟨ad218,e218,hx218_0,hx218_1⟩:=at_T69 HR0_2.out x4_2 p218 q218
                    cases e218
                    replace hx218_0:=(HB.out.cell (World.block_lt_of_cell? w _ hx218_0)).trans hx218_0
                    replace hx218_1:=(HB.out.cell (World.block_lt_of_cell? w _ hx218_1)).trans hx218_1
                    replace p218:=eq_true p218
                    replace q218:=eq_true q218
                    go_wp2_with (first|((with_reducible refine gate_callee (f:=59) rfl ?_);refine goesL_ (some 32) rfl rfl Tryd.func59 (by kernel_rfl) rfl #[.string ((rd_T69 l0_2 x4_2).f0)] rfl (by (try simp only [List.map_toArray,List.map_cons,List.map_nil]);first|done|rfl|(simp only [List.length_drop,List.length_take];rfl)) ?_;(with_reducible refine (spec_l1Domain.calls k2 ((rd_T69 l0_2 x4_2).f0) true _ A14.out).mono ?_);rintro e w23 ⟨rfl,hb⟩;refine ⟨_,rfl,?_⟩;have n0_:=Aside0.mk (blk_below (g:=gb214) (o:=.cells #[.string a0_0,.slice A0_1 l0_1.length c0_1,.slice (some ad218) l0_2.length c0_2] 56 (0,0)) (by (with_reducible repeat (first|refine blk_drewN ?_ _|refine blk_drew ?_|refine blk_alloc ?_ _));exact BK214.out) hb);have n1_:=Aside0.mk (below_step (by repeat (first|(with_reducible first|exact HB.out|apply below_alloc|apply pw_below_drewN|apply below_drew1|refine below_set ?_ GE214.out)|exact HB.out)) hb);clear BK214;clear HB;have BK214:=n0_;have HB:=n1_;clear n0_ n1_;(try clear hb);(try clear hb2);(try clear hk);(try clear hi);have hcz24_0:w23.cell? ⟨gb214,0,none⟩=some (.string a0_0):=(blk_cell BK214.out 0).trans rfl;have hcz24_1:w23.cell? ⟨gb214,1,none⟩=some (.slice A0_1 l0_1.length c0_1):=(blk_cell BK214.out 1).trans rfl;have hcz24_2:w23.cell? ⟨gb214,2,none⟩=some (.slice (some ad218) l0_2.length c0_2):=(blk_cell BK214.out 2).trans rfl;have hfz24_0:=blk_frozen BK214.out 0;have hfz24_1:=blk_frozen BK214.out 1;have hfz24_2:=blk_frozen BK214.out 2;have p220:0≤(x4_2:Int):=of_decide_eq_true (by first|(with_reducible assumption)|assumption);have q220:x4_2 < (l0_2.length:Int):=of_decide_eq_true (by first|(with_reducible assumption)|assumption);obtain ⟨ad220,e220,hx220_0,hx220_1⟩:=at_T69 HR0_2.out x4_2 p220 q220;obtain rfl:ad218=ad220:=(by injection e220);replace hx220_0:=(HB.out.cell (World.block_lt_of_cell? w _ hx220_0)).trans hx220_0;replace hx220_1:=(HB.out.cell (World.block_lt_of_cell? w _ hx220_1)).trans hx220_1;replace p220:=eq_true p220;replace q220:=eq_true q220)|(go_at_call 59;(with_reducible refine (spec_l1Domain.calls k2 ((rd_T69 l0_2 x4_2).f1) false _ A16.out).mono ?_);rintro e w25 ⟨rfl,hb⟩;have n0_:=Aside0.mk (blk_below (g:=gb214) (o:=.cells #[.string a0_0,.slice A0_1 l0_1.length c0_1,.slice (some ad218) l0_2.length c0_2] 56 (0,0)) (by (with_reducible repeat (first|refine blk_drewN ?_ _|refine blk_drew ?_|refine blk_alloc ?_ _));exact BK214.out) hb);have n1_:=Aside0.mk (below_step (by repeat (first|(with_reducible first|exact HB.out|apply below_alloc|apply pw_below_drewN|apply below_drew1|refine below_set ?_ GE214.out)|exact HB.out)) hb);clear BK214;clear HB;have BK214:=n0_;have HB:=n1_;clear n0_ n1_;(try clear hb);(try clear hb2);(try clear hk);(try clear hi)))
                    go_ret
                    exact ⟨by first|rfl|(simp [errW_none,errW_some]<;>rfl)|(simp [*,errW_none,errW_some]<;>rfl),by repeat (first|(with_reducible first|exact HB.out|apply below_alloc|apply pw_below_drewN|apply below_drew1|refine below_set ?_ GE214.out)|exact HB.out)⟩
                · replace c15:=Bool.eq_false_iff.mpr c15
                  subst c15
                  have H1:(some false)=some r:=by rw [if_neg (show ¬ (false=true) by decide)] at H;exact H
                  clear H
                  have H:=H1
                  clear H1
                  obtain rfl:=Option.some.inj H
                  have hcz26_0:wr.cell? ⟨gb214,0,none⟩=some (.string a0_0):=(blk_cell BK214.out 0).trans rfl
                  have hcz26_1:wr.cell? ⟨gb214,1,none⟩=some (.slice A0_1 l0_1.length c0_1):=(blk_cell BK214.out 1).trans rfl
                  have hcz26_2:wr.cell? ⟨gb214,2,none⟩=some (.slice A0_2 l0_2.length c0_2):=(blk_cell BK214.out 2).trans rfl
                  have hfz26_0:=blk_frozen BK214.out 0
                  have hfz26_1:=blk_frozen BK214.out 1
                  have hfz26_2:=blk_frozen BK214.out 2
                  have p218:0≤(x4_2:Int):=of_decide_eq_true (by first|(with_reducible assumption)|assumption)
                  have q218:x4_2 < (l0_2.length:Int):=of_decide_eq_true (by first|(with_reducible assumption)|assumption)
                  obtain ⟨ad218,e218,hx218_0,hx218_1⟩:=at_T69 HR0_2.out x4_2 p218 q218
                  cases e218
                  replace hx218_0:=(HB.out.cell (World.block_lt_of_cell? w _ hx218_0)).trans hx218_0
                  replace hx218_1:=(HB.out.cell (World.block_lt_of_cell? w _ hx218_1)).trans hx218_1
                  replace p218:=eq_true p218
                  replace q218:=eq_true q218
                  go_wp2_with (first|((with_reducible refine gate_callee (f:=59) rfl ?_);refine goesL_ (some 32) rfl rfl Tryd.func59 (by kernel_rfl) rfl #[.string ((rd_T69 l0_2 x4_2).f0)] rfl (by (try simp only [List.map_toArray,List.map_cons,List.map_nil]);first|done|rfl|(simp only [List.length_drop,List.length_take];rfl)) ?_;(with_reducible refine (spec_l1Domain.calls k2 ((rd_T69 l0_2 x4_2).f0) false _ A14.out).mono ?_);rintro e w27 ⟨rfl,hb⟩;refine ⟨_,rfl,?_⟩;have n0_:=Aside0.mk (blk_below (g:=gb214) (o:=.cells #[.string a0_0,.slice A0_1 l0_1.length c0_1,.slice (some ad218) l0_2.length c0_2] 56 (0,0)) (by (with_reducible repeat (first|refine blk_drewN ?_ _|refine blk_drew ?_|refine blk_alloc ?_ _));exact BK214.out) hb);have n1_:=Aside0.mk (below_step (by repeat (first|(with_reducible first|exact HB.out|apply below_alloc|apply pw_below_drewN|apply below_drew1|refine below_set ?_ GE214.out)|exact HB.out)) hb);clear BK214;clear HB;have BK214:=n0_;have HB:=n1_;clear n0_ n1_;(try clear hb);(try clear hb2);(try clear hk);(try clear hi)))
                  go_ret
                  exact ⟨by first|rfl|(simp [errW_none,errW_some]<;>rfl)|(simp [*,errW_none,errW_some]<;>rfl),by repeat (first|(with_reducible first|exact HB.out|apply below_alloc|apply pw_below_drewN|apply below_drew1|refine below_set ?_ GE214.out)|exact HB.out)⟩
              · rw [if_neg c13] at H
                exact absurd H (by simp)
            · rw [if_neg c12] at H
              have c12b0:decide (x4_2 < (l0_2.length:Int))=false:=decide_eq_false c12
              clear c12
              replace H:=Option.bind_eq_some_iff.mp H
              obtain ⟨t217,A280,H⟩:=H
              replace H:(if t217=true then (if (l0_1.length:Int)≤3 then (some (decide ((l0_2.length:Int)≤4))) else (some false)) else (some false))=some r:=H
              have A28:=Aside0.mk A280
              clear A280
              by_cases c29:t217=true
              · subst c29
                have H1:(if (l0_1.length:Int)≤3 then (some (decide ((l0_2.length:Int)≤4))) else (some false))=some r:=by rw [if_pos rfl] at H;exact H
                clear H
                have H:=H1
                clear H1
                by_cases c30:(l0_1.length:Int)≤3
                · rw [if_pos c30] at H
                  have c30b0:decide ((l0_1.length:Int)≤3)=true:=decide_eq_true c30
                  have c30b1:decide (l0_1.length≤3)=true:=decide_eq_true (by omega)
                  clear c30
                  obtain rfl:=Option.some.inj H
                  have hcz31_0:wr.cell? ⟨gb214,0,none⟩=some (.string a0_0):=(blk_cell BK214.out 0).trans rfl
                  have hcz31_1:wr.cell? ⟨gb214,1,none⟩=some (.slice A0_1 l0_1.length c0_1):=(blk_cell BK214.out 1).trans rfl
                  have hcz31_2:wr.cell? ⟨gb214,2,none⟩=some (.slice A0_2 l0_2.length c0_2):=(blk_cell BK214.out 2).trans rfl
                  have hfz31_0:=blk_frozen BK214.out 0
                  have hfz31_1:=blk_frozen BK214.out 1
                  have hfz31_2:=blk_frozen BK214.out 2
                  go_wp2_with (first|((with_reducible refine gate_callee (f:=59) rfl ?_);refine goesL_ (some 46) rfl rfl Tryd.func59 (by kernel_rfl) rfl #[.string a0_0] rfl (by (try simp only [List.map_toArray,List.map_cons,List.map_nil]);first|done|rfl|(simp only [List.length_drop,List.length_take];rfl)) ?_;(with_reducible refine (spec_l1Domain.calls k2 a0_0 true _ A28.out).mono ?_);rintro e w32 ⟨rfl,hb⟩;refine ⟨_,rfl,?_⟩;have n0_:=Aside0.mk (blk_below (g:=gb214) (o:=.cells #[.string a0_0,.slice A0_1 l0_1.length c0_1,.slice A0_2 l0_2.length c0_2] 56 (0,0)) (by (with_reducible repeat (first|refine blk_drewN ?_ _|refine blk_drew ?_|refine blk_alloc ?_ _));exact BK214.out) hb);have n1_:=Aside0.mk (below_step (by repeat (first|(with_reducible first|exact HB.out|apply below_alloc|apply pw_below_drewN|apply below_drew1|refine below_set ?_ GE214.out)|exact HB.out)) hb);clear BK214;clear HB;have BK214:=n0_;have HB:=n1_;clear n0_ n1_;(try clear hb);(try clear hb2);(try clear hk);(try clear hi);have hcz33_0:w32.cell? ⟨gb214,0,none⟩=some (.string a0_0):=(blk_cell BK214.out 0).trans rfl;have hcz33_1:w32.cell? ⟨gb214,1,none⟩=some (.slice A0_1 l0_1.length c0_1):=(blk_cell BK214.out 1).trans rfl;have hcz33_2:w32.cell? ⟨gb214,2,none⟩=some (.slice A0_2 l0_2.length c0_2):=(blk_cell BK214.out 2).trans rfl;have hfz33_0:=blk_frozen BK214.out 0;have hfz33_1:=blk_frozen BK214.out 1;have hfz33_2:=blk_frozen BK214.out 2))
                  go_ret
                  exact ⟨by first|rfl|(simp [errW_none,errW_some]<;>rfl)|(simp [*,errW_none,errW_some]<;>rfl),by repeat (first|(with_reducible first|exact HB.out|apply below_alloc|apply pw_below_drewN|apply below_drew1|refine below_set ?_ GE214.out)|exact HB.out)⟩
                · rw [if_neg c30] at H
                  have c30b0:decide ((l0_1.length:Int)≤3)=false:=decide_eq_false c30
                  have c30b1:decide (l0_1.length≤3)=false:=decide_eq_false (by omega)
                  clear c30
                  obtain rfl:=Option.some.inj H
                  have hcz34_0:wr.cell? ⟨gb214,0,none⟩=some (.string a0_0):=(blk_cell BK214.out 0).trans rfl
                  have hcz34_1:wr.cell? ⟨gb214,1,none⟩=some (.slice A0_1 l0_1.length c0_1):=(blk_cell BK214.out 1).trans rfl
                  have hcz34_2:wr.cell? ⟨gb214,2,none⟩=some (.slice A0_2 l0_2.length c0_2):=(blk_cell BK214.out 2).trans rfl
                  have hfz34_0:=blk_frozen BK214.out 0
                  have hfz34_1:=blk_frozen BK214.out 1
                  have hfz34_2:=blk_frozen BK214.out 2
                  go_wp2_with (first|((with_reducible refine gate_callee (f:=59) rfl ?_);refine goesL_ (some 46) rfl rfl Tryd.func59 (by kernel_rfl) rfl #[.string a0_0] rfl (by (try simp only [List.map_toArray,List.map_cons,List.map_nil]);first|done|rfl|(simp only [List.length_drop,List.length_take];rfl)) ?_;(with_reducible refine (spec_l1Domain.calls k2 a0_0 true _ A28.out).mono ?_);rintro e w35 ⟨rfl,hb⟩;refine ⟨_,rfl,?_⟩;have n0_:=Aside0.mk (blk_below (g:=gb214) (o:=.cells #[.string a0_0,.slice A0_1 l0_1.length c0_1,.slice A0_2 l0_2.length c0_2] 56 (0,0)) (by (with_reducible repeat (first|refine blk_drewN ?_ _|refine blk_drew ?_|refine blk_alloc ?_ _));exact BK214.out) hb);have n1_:=Aside0.mk (below_step (by repeat (first|(with_reducible first|exact HB.out|apply below_alloc|apply pw_below_drewN|apply below_drew1|refine below_set ?_ GE214.out)|exact HB.out)) hb);clear BK214;clear HB;have BK214:=n0_;have HB:=n1_;clear n0_ n1_;(try clear hb);(try clear hb2);(try clear hk);(try clear hi);have hcz36_0:w35.cell? ⟨gb214,0,none⟩=some (.string a0_0):=(blk_cell BK214.out 0).trans rfl;have hcz36_1:w35.cell? ⟨gb214,1,none⟩=some (.slice A0_1 l0_1.length c0_1):=(blk_cell BK214.out 1).trans rfl;have hcz36_2:w35.cell? ⟨gb214,2,none⟩=some (.slice A0_2 l0_2.length c0_2):=(blk_cell BK214.out 2).trans rfl;have hfz36_0:=blk_frozen BK214.out 0;have hfz36_1:=blk_frozen BK214.out 1;have hfz36_2:=blk_frozen BK214.out 2))
                  go_ret
                  exact ⟨by first|rfl|(simp [errW_none,errW_some]<;>rfl)|(simp [*,errW_none,errW_some]<;>rfl),by repeat (first|(with_reducible first|exact HB.out|apply below_alloc|apply pw_below_drewN|apply below_drew1|refine below_set ?_ GE214.out)|exact HB.out)⟩
              · replace c29:=Bool.eq_false_iff.mpr c29
                subst c29
                have H1:(some false)=some r:=by rw [if_neg (show ¬ (false=true) by decide)] at H;exact H
                clear H
                have H:=H1
                clear H1
                obtain rfl:=Option.some.inj H
                have hcz37_0:wr.cell? ⟨gb214,0,none⟩=some (.string a0_0):=(blk_cell BK214.out 0).trans rfl
                have hcz37_1:wr.cell? ⟨gb214,1,none⟩=some (.slice A0_1 l0_1.length c0_1):=(blk_cell BK214.out 1).trans rfl
                have hcz37_2:wr.cell? ⟨gb214,2,none⟩=some (.slice A0_2 l0_2.length c0_2):=(blk_cell BK214.out 2).trans rfl
                have hfz37_0:=blk_frozen BK214.out 0
                have hfz37_1:=blk_frozen BK214.out 1
                have hfz37_2:=blk_frozen BK214.out 2
                go_wp2_with (first|((with_reducible refine gate_callee (f:=59) rfl ?_);refine goesL_ (some 46) rfl rfl Tryd.func59 (by kernel_rfl) rfl #[.string a0_0] rfl (by (try simp only [List.map_toArray,List.map_cons,List.map_nil]);first|done|rfl|(simp only [List.length_drop,List.length_take];rfl)) ?_;(with_reducible refine (spec_l1Domain.calls k2 a0_0 false _ A28.out).mono ?_);rintro e w38 ⟨rfl,hb⟩;refine ⟨_,rfl,?_⟩;have n0_:=Aside0.mk (blk_below (g:=gb214) (o:=.cells #[.string a0_0,.slice A0_1 l0_1.length c0_1,.slice A0_2 l0_2.length c0_2] 56 (0,0)) (by (with_reducible repeat (first|refine blk_drewN ?_ _|refine blk_drew ?_|refine blk_alloc ?_ _));exact BK214.out) hb);have n1_:=Aside0.mk (below_step (by repeat (first|(with_reducible first|exact HB.out|apply below_alloc|apply pw_below_drewN|apply below_drew1|refine below_set ?_ GE214.out)|exact HB.out)) hb);clear BK214;clear HB;have BK214:=n0_;have HB:=n1_;clear n0_ n1_;(try clear hb);(try clear hb2);(try clear hk);(try clear hi)))
                go_ret
                exact ⟨by first|rfl|(simp [errW_none,errW_some]<;>rfl)|(simp [*,errW_none,errW_some]<;>rfl),by repeat (first|(with_reducible first|exact HB.out|apply below_alloc|apply pw_below_drewN|apply below_drew1|refine below_set ?_ GE214.out)|exact HB.out)⟩
def spec_ConfOk.f (k:Nat) (a0_0:ByteArray) (l0_1:List ByteArray) (l0_2:List (S69)):Option (Bool):=(spec_l3ConfOk.f k a0_0 l0_1 l0_2).bind fun t223=>(some t223)
set_option maxHeartbeats 8000000 in
set_option maxRecDepth 100000 in
theorem spec_ConfOk.calls (k:Nat) (a0_0:ByteArray) (A0_1:Option Addr) (c0_1:Nat) (l0_1:List ByteArray) (A0_2:Option Addr) (c0_2:Nat) (l0_2:List (S69)) (r:Bool) (w:World) (hr0_1:Kd.C Kd.string w A0_1 l0_1.length l0_1) (hc0_1:l0_1.length≤c0_1) (hr0_2:Kd.C k69 w A0_2 l0_2.length l0_2) (hc0_2:l0_2.length≤c0_2) (h:spec_ConfOk.f k a0_0 l0_1 l0_2=some r) :
    Calls Tryd.prog 40 #[.agg #[.string a0_0,.slice A0_1 l0_1.length c0_1,.slice A0_2 l0_2.length c0_2]] w fun e w'=>e=.returned (.bool r)∧Below w.heap.size w w':=by
  have hu56:=Tryd.underlying56
  have HR0_1:=Aside0.mk hr0_1
  have HC0_1:=Aside0.mk hc0_1
  clear hr0_1 hc0_1
  have HR0_2:=Aside0.mk hr0_2
  have HC0_2:=Aside0.mk hc0_2
  clear hr0_2 hc0_2
  have HB:=Aside0.mk (Below.refl w.heap.size w)
  have H:((spec_l3ConfOk.f k a0_0 l0_1 l0_2).bind fun t223=>(some t223))=some r:=h
  clear h
  replace H:=Option.bind_eq_some_iff.mp H
  obtain ⟨t223,A20,H⟩:=H
  replace H:(some t223)=some r:=H
  have A2:=Aside0.mk A20
  clear A20
  obtain rfl:=Option.some.inj H
  go_enter Tryd.func40,Tryd.ntmps40
  go_wp2_with (first|((with_reducible refine gate_dst (N:=1) rfl ?_);refine box_event ?hg (N:=1) ?hd (cs:=#[.string a0_0,.slice A0_1 l0_1.length c0_1,.slice A0_2 l0_2.length c0_2]) (t:=56) ?hr ?_;(case hd=>rfl);(case hg=>rfl);(case hr=>first|(go_simp;done)|(go_simp;rfl));intro gb222 hg w3 hbox hb;have n0_:=Aside0.mk (below_step (by repeat (first|(with_reducible first|exact HB.out|apply below_alloc|apply pw_below_drewN|apply below_drew1)|exact HB.out)) hb);have n1_:=Aside0.mk (hbox);have n2_:=Aside0.mk ((by rw [hg];exact (below_size (by repeat (first|(with_reducible first|exact HB.out|apply below_alloc|apply pw_below_drewN|apply below_drew1)|exact HB.out))):w.heap.size≤gb222));have n3_:=Aside0.mk ((by rw [hg];exact (below_size (by repeat (first|(with_reducible first|exact HB.out|apply below_alloc|apply pw_below_drewN|apply below_drew1)|exact HB.out))):w.heap.size≤gb222));clear HB;have HB:=n0_;have BK222:=n1_;have GW222:=n2_;have GE222:=n3_;clear n0_ n1_ n2_ n3_;clear hb hbox hg;have hcz4_0:w3.cell? ⟨gb222,0,none⟩=some (.string a0_0):=(blk_cell BK222.out 0).trans rfl;have hcz4_1:w3.cell? ⟨gb222,1,none⟩=some (.slice A0_1 l0_1.length c0_1):=(blk_cell BK222.out 1).trans rfl;have hcz4_2:w3.cell? ⟨gb222,2,none⟩=some (.slice A0_2 l0_2.length c0_2):=(blk_cell BK222.out 2).trans rfl;have hfz4_0:=blk_frozen BK222.out 0;have hfz4_1:=blk_frozen BK222.out 1;have hfz4_2:=blk_frozen BK222.out 2)|((with_reducible refine gate_callee (f:=81) rfl ?_);refine goesL_ (some 4) rfl rfl Tryd.func81 (by kernel_rfl) rfl #[.agg #[.string a0_0,.slice A0_1 l0_1.length c0_1,.slice A0_2 l0_2.length c0_2]] rfl (by (try simp only [List.map_toArray,List.map_cons,List.map_nil]);first|done|rfl|(simp only [List.length_drop,List.length_take];rfl)) ?_;(with_reducible refine (spec_l3ConfOk.calls k a0_0 _ _ l0_1 _ _ l0_2 t223 _ ?side1 ?side2 ?side3 ?side4 A2.out).mono ?_);(case side1=>repeat (first|exact (Kd.C_below HR0_1.out HB.out)|(with_reducible refine Kd.C_alloc ?_ _)|(with_reducible refine Kd.C_drewN ?_ _)|(with_reducible refine Kd.C_drew ?_)));(case side2=>exact HC0_1.out);(case side3=>repeat (first|exact (Kd.C_below HR0_2.out HB.out)|(with_reducible refine Kd.C_alloc ?_ _)|(with_reducible refine Kd.C_drewN ?_ _)|(with_reducible refine Kd.C_drew ?_)));(case side4=>exact HC0_2.out);rintro e w5 ⟨rfl,hb⟩;refine ⟨_,rfl,?_⟩;have n0_:=Aside0.mk (blk_below (g:=gb222) (o:=.cells #[.string a0_0,.slice A0_1 l0_1.length c0_1,.slice A0_2 l0_2.length c0_2] 56 (0,0)) (by (with_reducible repeat (first|refine blk_drewN ?_ _|refine blk_drew ?_|refine blk_alloc ?_ _));exact BK222.out) hb);have n1_:=Aside0.mk (below_step (by repeat (first|(with_reducible first|exact HB.out|apply below_alloc|apply pw_below_drewN|apply below_drew1|refine below_set ?_ GE222.out)|exact HB.out)) hb);clear BK222;clear HB;have BK222:=n0_;have HB:=n1_;clear n0_ n1_;(try clear hb);(try clear hb2);(try clear hk);(try clear hi)))
  go_ret
  exact ⟨by first|rfl|(simp [errW_none,errW_some]<;>rfl)|(simp [*,errW_none,errW_some]<;>rfl),by repeat (first|(with_reducible first|exact HB.out|apply below_alloc|apply pw_below_drewN|apply below_drew1|refine below_set ?_ GE222.out)|exact HB.out)⟩
def impl_ConfOk_1.f (k:Nat) (a0:ByteArray):Option (Bool):=(impl_DomainOk.f k a0).bind fun t214=>(some (!t214))
set_option maxHeartbeats 8000000 in
set_option maxRecDepth 100000 in
theorem impl_ConfOk_1.calls (k:Nat) (a0:ByteArray) (r:Bool) (w:World) (hG:GOK w) (h:impl_ConfOk_1.f k a0=some r) :
    Calls Tryd.prog 83 #[.string a0] w fun e w'=>e=.returned (.bool r)∧Below w.heap.size w w':=by
  have HG:=Aside0.mk hG
  clear hG
  have HB:=Aside0.mk (Below.refl w.heap.size w)
  have H:((impl_DomainOk.f k a0).bind fun t214=>(some (!t214)))=some r:=h
  clear h
  replace H:=Option.bind_eq_some_iff.mp H
  obtain ⟨t214,A20,H⟩:=H
  replace H:(some (!t214))=some r:=H
  have A2:=Aside0.mk A20
  clear A20
  obtain rfl:=Option.some.inj H
  go_enter Tryd.func83,Tryd.ntmps83
  go_wp2_with (first|((with_reducible refine gate_callee (f:=18) rfl ?_);refine goesL_ (some 4) rfl rfl Tryd.func18 (by kernel_rfl) rfl #[.string a0] rfl (by (try simp only [List.map_toArray,List.map_cons,List.map_nil]);first|done|rfl|(simp only [List.length_drop,List.length_take];rfl)) ?_;(with_reducible refine (impl_DomainOk.calls k a0 t214 _ ?side1 A2.out).mono ?_);(case side1=>first|(with_reducible exact HG.out)|((with_reducible repeat (first|exact HG.out|apply GOK.drewN|apply GOK.drew));done)|exact GOK.below HG.out (by repeat (first|(with_reducible first|exact HB.out|apply below_alloc|apply pw_below_drewN|apply below_drew1)|exact HB.out)));rintro e w3 ⟨rfl,hb⟩;refine ⟨_,rfl,?_⟩;have n0_:=Aside0.mk (below_step (by repeat (first|(with_reducible first|exact HB.out|apply below_alloc|apply pw_below_drewN|apply below_drew1)|exact HB.out)) hb);clear HB;have HB:=n0_;clear n0_;(try clear hb);(try clear hb2);(try clear hk);(try clear hi)))
  go_ret
  exact ⟨by first|rfl|(simp [errW_none,errW_some]<;>rfl)|(simp [*,errW_none,errW_some]<;>rfl),by repeat (first|(with_reducible first|exact HB.out|apply below_alloc|apply pw_below_drewN|apply below_drew1)|exact HB.out)⟩
end Go.Proofs.YtpeefjfklklhdaaDoor.Q
