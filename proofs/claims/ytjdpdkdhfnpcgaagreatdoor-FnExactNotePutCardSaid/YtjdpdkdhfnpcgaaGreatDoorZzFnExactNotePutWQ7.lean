/- Of a text of ours what this claim needs. -/
import Derived.Test.YtjdpdkdhfnpcgaaGreatDoorZzFnExactNotePutWQ0
import Derived.Test.YtjdpdkdhfnpcgaaGreatDoorZzFnExactNotePutWQ3
import Derived.Test.YtjdpdkdhfnpcgaaGreatDoorZzFnExactNotePutWQ5
import Derived.Test.YtjdpdkdhfnpcgaaGreatDoorZzFnExactNotePutWQ6
namespace Go.Proofs.YtjdpdkdhfnpcgaaGreatDoor.Q
open Go.RowKit Go.Proofs.YtjdpdkdhfnpcgaaGreatDoorW.PrintWords Go.Proofs.YtjdpdkdhfnpcgaaGreatDoorW.PrintLast Go.Proofs.YtjdpdkdhfnpcgaaGreatDoorW.PrintMore
attribute [local go_sem] max2_int min2_int max_two min_two max_three min_three max_four min_four
set_option linter.unusedVariables false
set_option linter.unusedSimpArgs false
def spec_l6Ok.j0:Nat→Bool→Int→Int→ByteArray→ByteArray→Int→ByteArray→ByteArray→List (S24)→List ByteArray→Option (Bool)
  | 0,_,_,_,_,_,_,_,_,_,_=>none
  | k+1,x3,x115000,x115001,x115002,x115003,x115004,x115005,x115006,x115007,x115008=>if x115000=1 then (if x115001=0 then ((spec_l1Null.f x115002 x115003).bind fun t116=>(if t116=true then ((spec_l2Ok.f k x115005 x115006 x115007 x115008).bind fun t117=>(if t117=true then ((spec_l1In.f x115004 0 9999).bind fun t118=>(some t118)) else (some false))) else (some false))) else (some false)) else (if x115000=2 then (if x3=true then ((spec_l1In.f x115001 1 999).bind fun t119=>(if t119=true then ((spec_l1AddrOk.f k x115002 x115003).bind fun t120=>(if t120=true then (some (x115004==0)) else (some false))) else (some false))) else (some false)) else (if x115000=3 then (if x3=true then ((spec_l1In.f x115001 1 999).bind fun t121=>(if t121=true then ((spec_l1AddrOk.f k x115002 x115003).bind fun t122=>(if t122=true then ((spec_l1In.f x115004 0 9999).bind fun t123=>(some t123)) else (some false))) else (some false))) else (some false)) else (some false)))
def spec_l6Ok.f (k:Nat) (a0_0:Int) (a0_1:Int) (a0_2:ByteArray) (a0_3:ByteArray) (a0_4:Int) (a0_5:ByteArray) (a0_6:ByteArray) (l0_7:List (S24)) (l0_8:List ByteArray):Option (Bool):=(spec_l1Null.f a0_5 a0_6).bind fun t115=>(if t115=true then (if (l0_7.length:Int)=0 then (spec_l6Ok.j0 k ((l0_8.length:Int)==0) a0_0 a0_1 a0_2 a0_3 a0_4 a0_5 a0_6 l0_7 l0_8) else (spec_l6Ok.j0 k false a0_0 a0_1 a0_2 a0_3 a0_4 a0_5 a0_6 l0_7 l0_8)) else (spec_l6Ok.j0 k false a0_0 a0_1 a0_2 a0_3 a0_4 a0_5 a0_6 l0_7 l0_8))
set_option maxHeartbeats 8000000 in
set_option maxRecDepth 100000 in
theorem spec_l6Ok.calls (k:Nat) (a0_0:Int) (a0_1:Int) (a0_2:ByteArray) (a0_3:ByteArray) (a0_4:Int) (a0_5:ByteArray) (a0_6:ByteArray) (A0_7:Option Addr) (c0_7:Nat) (l0_7:List (S24)) (A0_8:Option Addr) (c0_8:Nat) (l0_8:List ByteArray) (r:Bool) (w:World) (hr0_7:Kd.C k24 w A0_7 l0_7.length l0_7) (hc0_7:l0_7.length≤c0_7) (hr0_8:Kd.C Kd.string w A0_8 l0_8.length l0_8) (hc0_8:l0_8.length≤c0_8) (h:spec_l6Ok.f k a0_0 a0_1 a0_2 a0_3 a0_4 a0_5 a0_6 l0_7 l0_8=some r) :
    Calls Tryz.prog 25 #[.agg #[.int .i64 a0_0,.int .i64 a0_1,.string a0_2,.string a0_3,.int .i64 a0_4,.string a0_5,.string a0_6,.slice A0_7 l0_7.length c0_7,.slice A0_8 l0_8.length c0_8]] w fun e w'=>e=.returned (.bool r)∧Below w.heap.size w w':=by
  have hu30:=Tryz.underlying30
  have hu24:=Tryz.underlying24
  have hu28:=Tryz.underlying28
  have HR0_7:=Aside0.mk hr0_7
  have HC0_7:=Aside0.mk hc0_7
  clear hr0_7 hc0_7
  have HR0_8:=Aside0.mk hr0_8
  have HC0_8:=Aside0.mk hc0_8
  clear hr0_8 hc0_8
  have HB:=Aside0.mk (Below.refl w.heap.size w)
  have H:((spec_l1Null.f a0_5 a0_6).bind fun t115=>(if t115=true then (if (l0_7.length:Int)=0 then (spec_l6Ok.j0 k ((l0_8.length:Int)==0) a0_0 a0_1 a0_2 a0_3 a0_4 a0_5 a0_6 l0_7 l0_8) else (spec_l6Ok.j0 k false a0_0 a0_1 a0_2 a0_3 a0_4 a0_5 a0_6 l0_7 l0_8)) else (spec_l6Ok.j0 k false a0_0 a0_1 a0_2 a0_3 a0_4 a0_5 a0_6 l0_7 l0_8)))=some r:=h
  clear h
  have HC2:=Aside0.mk H
  clear H
  go_enter Tryz.func25,Tryz.ntmps25
  go_upto_region 1 with (first|((with_reducible refine gate_dst (N:=1) rfl ?_);(try (refine gate_guard (by rfl) ?_;dsimp only));refine box_event ?hg (N:=1) ?hd (cs:=#[.int .i64 a0_0,.int .i64 a0_1,.string a0_2,.string a0_3,.int .i64 a0_4,.string a0_5,.string a0_6,.slice A0_7 l0_7.length c0_7,.slice A0_8 l0_8.length c0_8]) (t:=30) ?hr ?_;(case hd=>rfl);(case hg=>rfl);(case hr=>first|(go_simp;done)|(go_simp;rfl));intro gb114 hg w3 hbox hb;have n0_:=Aside0.mk (below_step (by repeat (first|(with_reducible first|exact HB.out|apply below_alloc|apply pw_below_drewN|apply below_drew1)|exact HB.out)) hb);have n1_:=Aside0.mk (hbox);have n2_:=Aside0.mk ((by rw [hg];exact (below_size (by repeat (first|(with_reducible first|exact HB.out|apply below_alloc|apply pw_below_drewN|apply below_drew1)|exact HB.out))):w.heap.size≤gb114));have n3_:=Aside0.mk ((by rw [hg];exact (below_size (by repeat (first|(with_reducible first|exact HB.out|apply below_alloc|apply pw_below_drewN|apply below_drew1)|exact HB.out))):w.heap.size≤gb114));clear HB;have HB:=n0_;have BK114:=n1_;have GW114:=n2_;have GE114:=n3_;clear n0_ n1_ n2_ n3_;clear hb hbox hg))
  (try simp only [Act.put,List.setIfInBounds_toArray,List.set_cons_zero,List.set_cons_succ])
  go_cut [3] (fun v3 wc=>∃ (kq:Nat) (x3_1:Bool),v3=.bool x3_1∧Aside0 (spec_l6Ok.j0 kq x3_1 a0_0 a0_1 a0_2 a0_3 a0_4 a0_5 a0_6 l0_7 l0_8=some r)∧Aside0 (kq≤k)∧Aside0 (wc.heap[gb114]?=some (.cells #[.int .i64 a0_0,.int .i64 a0_1,.string a0_2,.string a0_3,.int .i64 a0_4,.string a0_5,.string a0_6,(.slice A0_7 l0_7.length c0_7),(.slice A0_8 l0_8.length c0_8)] 30 (0,0)))∧Aside0 (Below w.heap.size w wc))
  case first =>
    have H:=HC2.out
    clear HC2
    replace H:=Option.bind_eq_some_iff.mp H
    obtain ⟨t115,A40,H⟩:=H
    replace H:(if t115=true then (if (l0_7.length:Int)=0 then (spec_l6Ok.j0 k ((l0_8.length:Int)==0) a0_0 a0_1 a0_2 a0_3 a0_4 a0_5 a0_6 l0_7 l0_8) else (spec_l6Ok.j0 k false a0_0 a0_1 a0_2 a0_3 a0_4 a0_5 a0_6 l0_7 l0_8)) else (spec_l6Ok.j0 k false a0_0 a0_1 a0_2 a0_3 a0_4 a0_5 a0_6 l0_7 l0_8))=some r:=H
    have A4:=Aside0.mk A40
    clear A40
    by_cases c5:t115=true
    · subst c5
      have H1:(if (l0_7.length:Int)=0 then (spec_l6Ok.j0 k ((l0_8.length:Int)==0) a0_0 a0_1 a0_2 a0_3 a0_4 a0_5 a0_6 l0_7 l0_8) else (spec_l6Ok.j0 k false a0_0 a0_1 a0_2 a0_3 a0_4 a0_5 a0_6 l0_7 l0_8))=some r:=by rw [if_pos rfl] at H;exact H
      clear H
      have H:=H1
      clear H1
      by_cases c6:(l0_7.length:Int)=0
      · rw [if_pos c6] at H
        have c6b0:((l0_7.length:Int)==0)=true:=beq_iff_eq.mpr c6
        have c6b1:((l0_7.length:Int) != 0)=false:=bne_eq_false_iff_eq.mpr c6
        clear c6
        (first|rw [c6b0]|(simp only [i64_w,i32_w];rw [c6b0])|skip)
        have H':=Aside0.mk H
        clear H
        have hcz7_0:w3.cell? ⟨gb114,0,none⟩=some (.int .i64 a0_0):=(blk_cell BK114.out 0).trans rfl
        have hcz7_1:w3.cell? ⟨gb114,1,none⟩=some (.int .i64 a0_1):=(blk_cell BK114.out 1).trans rfl
        have hcz7_2:w3.cell? ⟨gb114,2,none⟩=some (.string a0_2):=(blk_cell BK114.out 2).trans rfl
        have hcz7_3:w3.cell? ⟨gb114,3,none⟩=some (.string a0_3):=(blk_cell BK114.out 3).trans rfl
        have hcz7_4:w3.cell? ⟨gb114,4,none⟩=some (.int .i64 a0_4):=(blk_cell BK114.out 4).trans rfl
        have hcz7_5:w3.cell? ⟨gb114,5,none⟩=some (.string a0_5):=(blk_cell BK114.out 5).trans rfl
        have hcz7_6:w3.cell? ⟨gb114,6,none⟩=some (.string a0_6):=(blk_cell BK114.out 6).trans rfl
        have hcz7_7:w3.cell? ⟨gb114,7,none⟩=some (.slice A0_7 l0_7.length c0_7):=(blk_cell BK114.out 7).trans rfl
        have hcz7_8:w3.cell? ⟨gb114,8,none⟩=some (.slice A0_8 l0_8.length c0_8):=(blk_cell BK114.out 8).trans rfl
        have hfz7_0:=blk_frozen BK114.out 0
        have hfz7_1:=blk_frozen BK114.out 1
        have hfz7_2:=blk_frozen BK114.out 2
        have hfz7_3:=blk_frozen BK114.out 3
        have hfz7_4:=blk_frozen BK114.out 4
        have hfz7_5:=blk_frozen BK114.out 5
        have hfz7_6:=blk_frozen BK114.out 6
        have hfz7_7:=blk_frozen BK114.out 7
        have hfz7_8:=blk_frozen BK114.out 8
        go_wp2_with (first|((with_reducible refine gate_callee (f:=56) rfl ?_);refine goesL_ (some 7) rfl rfl Tryz.func56 (by kernel_rfl) rfl #[.agg #[.string a0_5,.string a0_6]] rfl (by (try simp only [List.map_toArray,List.map_cons,List.map_nil]);first|done|rfl|(simp only [List.length_drop,List.length_take];rfl)) ?_;(with_reducible refine (spec_l1Null.calls a0_5 a0_6 true _ A4.out).mono ?_);rintro e w8 ⟨rfl,hb⟩;refine ⟨_,rfl,?_⟩;have n0_:=Aside0.mk (blk_below (g:=gb114) (o:=.cells #[.int .i64 a0_0,.int .i64 a0_1,.string a0_2,.string a0_3,.int .i64 a0_4,.string a0_5,.string a0_6,.slice A0_7 l0_7.length c0_7,.slice A0_8 l0_8.length c0_8] 30 (0,0)) (by (with_reducible repeat (first|refine blk_drewN ?_ _|refine blk_drew ?_|refine blk_alloc ?_ _));exact BK114.out) hb);have n1_:=Aside0.mk (below_step (by repeat (first|(with_reducible first|exact HB.out|apply below_alloc|apply pw_below_drewN|apply below_drew1|refine below_set ?_ GE114.out)|exact HB.out)) hb);clear BK114;clear HB;have BK114:=n0_;have HB:=n1_;clear n0_ n1_;(try clear hb);(try clear hb2);(try clear hk);(try clear hi);have hcz9_0:w8.cell? ⟨gb114,0,none⟩=some (.int .i64 a0_0):=(blk_cell BK114.out 0).trans rfl;have hcz9_1:w8.cell? ⟨gb114,1,none⟩=some (.int .i64 a0_1):=(blk_cell BK114.out 1).trans rfl;have hcz9_2:w8.cell? ⟨gb114,2,none⟩=some (.string a0_2):=(blk_cell BK114.out 2).trans rfl;have hcz9_3:w8.cell? ⟨gb114,3,none⟩=some (.string a0_3):=(blk_cell BK114.out 3).trans rfl;have hcz9_4:w8.cell? ⟨gb114,4,none⟩=some (.int .i64 a0_4):=(blk_cell BK114.out 4).trans rfl;have hcz9_5:w8.cell? ⟨gb114,5,none⟩=some (.string a0_5):=(blk_cell BK114.out 5).trans rfl;have hcz9_6:w8.cell? ⟨gb114,6,none⟩=some (.string a0_6):=(blk_cell BK114.out 6).trans rfl;have hcz9_7:w8.cell? ⟨gb114,7,none⟩=some (.slice A0_7 l0_7.length c0_7):=(blk_cell BK114.out 7).trans rfl;have hcz9_8:w8.cell? ⟨gb114,8,none⟩=some (.slice A0_8 l0_8.length c0_8):=(blk_cell BK114.out 8).trans rfl;have hfz9_0:=blk_frozen BK114.out 0;have hfz9_1:=blk_frozen BK114.out 1;have hfz9_2:=blk_frozen BK114.out 2;have hfz9_3:=blk_frozen BK114.out 3;have hfz9_4:=blk_frozen BK114.out 4;have hfz9_5:=blk_frozen BK114.out 5;have hfz9_6:=blk_frozen BK114.out 6;have hfz9_7:=blk_frozen BK114.out 7;have hfz9_8:=blk_frozen BK114.out 8))
        go_meet
        case rel=>exact ⟨_,(((l0_8.length:Int)==0)),(by first|rfl|(simp;done)|(simp [*];done)),H',⟨by first|omega|exact Nat.le_refl _⟩,⟨by (with_reducible repeat (first|refine blk_drewN ?_ _|refine blk_drew ?_|refine blk_alloc ?_ _));exact BK114.out⟩,⟨by repeat (first|(with_reducible first|exact HB.out|apply below_alloc|apply pw_below_drewN|apply below_drew1|refine below_set ?_ GE114.out)|exact HB.out)⟩⟩
      · rw [if_neg c6] at H
        have c6b0:((l0_7.length:Int)==0)=false:=beq_eq_false_iff_ne.mpr c6
        have c6b1:((l0_7.length:Int) != 0)=true:=bne_iff_ne.mpr c6
        have c6b2:¬ (l0_7=[]):=fun h_=>c6 (by rw [h_];rfl)
        (first|rw [c6b0]|(simp only [i64_w,i32_w];rw [c6b0])|skip)
        have H':=Aside0.mk H
        clear H
        have hcz10_0:w3.cell? ⟨gb114,0,none⟩=some (.int .i64 a0_0):=(blk_cell BK114.out 0).trans rfl
        have hcz10_1:w3.cell? ⟨gb114,1,none⟩=some (.int .i64 a0_1):=(blk_cell BK114.out 1).trans rfl
        have hcz10_2:w3.cell? ⟨gb114,2,none⟩=some (.string a0_2):=(blk_cell BK114.out 2).trans rfl
        have hcz10_3:w3.cell? ⟨gb114,3,none⟩=some (.string a0_3):=(blk_cell BK114.out 3).trans rfl
        have hcz10_4:w3.cell? ⟨gb114,4,none⟩=some (.int .i64 a0_4):=(blk_cell BK114.out 4).trans rfl
        have hcz10_5:w3.cell? ⟨gb114,5,none⟩=some (.string a0_5):=(blk_cell BK114.out 5).trans rfl
        have hcz10_6:w3.cell? ⟨gb114,6,none⟩=some (.string a0_6):=(blk_cell BK114.out 6).trans rfl
        have hcz10_7:w3.cell? ⟨gb114,7,none⟩=some (.slice A0_7 l0_7.length c0_7):=(blk_cell BK114.out 7).trans rfl
        have hcz10_8:w3.cell? ⟨gb114,8,none⟩=some (.slice A0_8 l0_8.length c0_8):=(blk_cell BK114.out 8).trans rfl
        have hfz10_0:=blk_frozen BK114.out 0
        have hfz10_1:=blk_frozen BK114.out 1
        have hfz10_2:=blk_frozen BK114.out 2
        have hfz10_3:=blk_frozen BK114.out 3
        have hfz10_4:=blk_frozen BK114.out 4
        have hfz10_5:=blk_frozen BK114.out 5
        have hfz10_6:=blk_frozen BK114.out 6
        have hfz10_7:=blk_frozen BK114.out 7
        have hfz10_8:=blk_frozen BK114.out 8
        go_wp2_with (first|((with_reducible refine gate_callee (f:=56) rfl ?_);refine goesL_ (some 7) rfl rfl Tryz.func56 (by kernel_rfl) rfl #[.agg #[.string a0_5,.string a0_6]] rfl (by (try simp only [List.map_toArray,List.map_cons,List.map_nil]);first|done|rfl|(simp only [List.length_drop,List.length_take];rfl)) ?_;(with_reducible refine (spec_l1Null.calls a0_5 a0_6 true _ A4.out).mono ?_);rintro e w11 ⟨rfl,hb⟩;refine ⟨_,rfl,?_⟩;have n0_:=Aside0.mk (blk_below (g:=gb114) (o:=.cells #[.int .i64 a0_0,.int .i64 a0_1,.string a0_2,.string a0_3,.int .i64 a0_4,.string a0_5,.string a0_6,.slice A0_7 l0_7.length c0_7,.slice A0_8 l0_8.length c0_8] 30 (0,0)) (by (with_reducible repeat (first|refine blk_drewN ?_ _|refine blk_drew ?_|refine blk_alloc ?_ _));exact BK114.out) hb);have n1_:=Aside0.mk (below_step (by repeat (first|(with_reducible first|exact HB.out|apply below_alloc|apply pw_below_drewN|apply below_drew1|refine below_set ?_ GE114.out)|exact HB.out)) hb);clear BK114;clear HB;have BK114:=n0_;have HB:=n1_;clear n0_ n1_;(try clear hb);(try clear hb2);(try clear hk);(try clear hi);have hcz12_0:w11.cell? ⟨gb114,0,none⟩=some (.int .i64 a0_0):=(blk_cell BK114.out 0).trans rfl;have hcz12_1:w11.cell? ⟨gb114,1,none⟩=some (.int .i64 a0_1):=(blk_cell BK114.out 1).trans rfl;have hcz12_2:w11.cell? ⟨gb114,2,none⟩=some (.string a0_2):=(blk_cell BK114.out 2).trans rfl;have hcz12_3:w11.cell? ⟨gb114,3,none⟩=some (.string a0_3):=(blk_cell BK114.out 3).trans rfl;have hcz12_4:w11.cell? ⟨gb114,4,none⟩=some (.int .i64 a0_4):=(blk_cell BK114.out 4).trans rfl;have hcz12_5:w11.cell? ⟨gb114,5,none⟩=some (.string a0_5):=(blk_cell BK114.out 5).trans rfl;have hcz12_6:w11.cell? ⟨gb114,6,none⟩=some (.string a0_6):=(blk_cell BK114.out 6).trans rfl;have hcz12_7:w11.cell? ⟨gb114,7,none⟩=some (.slice A0_7 l0_7.length c0_7):=(blk_cell BK114.out 7).trans rfl;have hcz12_8:w11.cell? ⟨gb114,8,none⟩=some (.slice A0_8 l0_8.length c0_8):=(blk_cell BK114.out 8).trans rfl;have hfz12_0:=blk_frozen BK114.out 0;have hfz12_1:=blk_frozen BK114.out 1;have hfz12_2:=blk_frozen BK114.out 2;have hfz12_3:=blk_frozen BK114.out 3;have hfz12_4:=blk_frozen BK114.out 4;have hfz12_5:=blk_frozen BK114.out 5;have hfz12_6:=blk_frozen BK114.out 6;have hfz12_7:=blk_frozen BK114.out 7;have hfz12_8:=blk_frozen BK114.out 8))
        go_meet
        case rel=>exact ⟨_,(false),(by first|rfl|(simp;done)|(simp [*];done)),H',⟨by first|omega|exact Nat.le_refl _⟩,⟨by (with_reducible repeat (first|refine blk_drewN ?_ _|refine blk_drew ?_|refine blk_alloc ?_ _));exact BK114.out⟩,⟨by repeat (first|(with_reducible first|exact HB.out|apply below_alloc|apply pw_below_drewN|apply below_drew1|refine below_set ?_ GE114.out)|exact HB.out)⟩⟩
    · replace c5:=Bool.eq_false_iff.mpr c5
      subst c5
      have H1:(spec_l6Ok.j0 k false a0_0 a0_1 a0_2 a0_3 a0_4 a0_5 a0_6 l0_7 l0_8)=some r:=by rw [if_neg (show ¬ (false=true) by decide)] at H;exact H
      clear H
      have H:=H1
      clear H1
      have H':=Aside0.mk H
      clear H
      have hcz13_0:w3.cell? ⟨gb114,0,none⟩=some (.int .i64 a0_0):=(blk_cell BK114.out 0).trans rfl
      have hcz13_1:w3.cell? ⟨gb114,1,none⟩=some (.int .i64 a0_1):=(blk_cell BK114.out 1).trans rfl
      have hcz13_2:w3.cell? ⟨gb114,2,none⟩=some (.string a0_2):=(blk_cell BK114.out 2).trans rfl
      have hcz13_3:w3.cell? ⟨gb114,3,none⟩=some (.string a0_3):=(blk_cell BK114.out 3).trans rfl
      have hcz13_4:w3.cell? ⟨gb114,4,none⟩=some (.int .i64 a0_4):=(blk_cell BK114.out 4).trans rfl
      have hcz13_5:w3.cell? ⟨gb114,5,none⟩=some (.string a0_5):=(blk_cell BK114.out 5).trans rfl
      have hcz13_6:w3.cell? ⟨gb114,6,none⟩=some (.string a0_6):=(blk_cell BK114.out 6).trans rfl
      have hcz13_7:w3.cell? ⟨gb114,7,none⟩=some (.slice A0_7 l0_7.length c0_7):=(blk_cell BK114.out 7).trans rfl
      have hcz13_8:w3.cell? ⟨gb114,8,none⟩=some (.slice A0_8 l0_8.length c0_8):=(blk_cell BK114.out 8).trans rfl
      have hfz13_0:=blk_frozen BK114.out 0
      have hfz13_1:=blk_frozen BK114.out 1
      have hfz13_2:=blk_frozen BK114.out 2
      have hfz13_3:=blk_frozen BK114.out 3
      have hfz13_4:=blk_frozen BK114.out 4
      have hfz13_5:=blk_frozen BK114.out 5
      have hfz13_6:=blk_frozen BK114.out 6
      have hfz13_7:=blk_frozen BK114.out 7
      have hfz13_8:=blk_frozen BK114.out 8
      go_wp2_with (first|((with_reducible refine gate_callee (f:=56) rfl ?_);refine goesL_ (some 7) rfl rfl Tryz.func56 (by kernel_rfl) rfl #[.agg #[.string a0_5,.string a0_6]] rfl (by (try simp only [List.map_toArray,List.map_cons,List.map_nil]);first|done|rfl|(simp only [List.length_drop,List.length_take];rfl)) ?_;(with_reducible refine (spec_l1Null.calls a0_5 a0_6 false _ A4.out).mono ?_);rintro e w14 ⟨rfl,hb⟩;refine ⟨_,rfl,?_⟩;have n0_:=Aside0.mk (blk_below (g:=gb114) (o:=.cells #[.int .i64 a0_0,.int .i64 a0_1,.string a0_2,.string a0_3,.int .i64 a0_4,.string a0_5,.string a0_6,.slice A0_7 l0_7.length c0_7,.slice A0_8 l0_8.length c0_8] 30 (0,0)) (by (with_reducible repeat (first|refine blk_drewN ?_ _|refine blk_drew ?_|refine blk_alloc ?_ _));exact BK114.out) hb);have n1_:=Aside0.mk (below_step (by repeat (first|(with_reducible first|exact HB.out|apply below_alloc|apply pw_below_drewN|apply below_drew1|refine below_set ?_ GE114.out)|exact HB.out)) hb);clear BK114;clear HB;have BK114:=n0_;have HB:=n1_;clear n0_ n1_;(try clear hb);(try clear hb2);(try clear hk);(try clear hi)))
      go_meet
      case rel=>exact ⟨_,(false),(by first|rfl|(simp;done)|(simp [*];done)),H',⟨by first|omega|exact Nat.le_refl _⟩,⟨by (with_reducible repeat (first|refine blk_drewN ?_ _|refine blk_drew ?_|refine blk_alloc ?_ _));exact BK114.out⟩,⟨by repeat (first|(with_reducible first|exact HB.out|apply below_alloc|apply pw_below_drewN|apply below_drew1|refine below_set ?_ GE114.out)|exact HB.out)⟩⟩
  case rest =>
    clear HC2
    try clear c2
    try clear p2
    try clear c5
    try clear c6
    try clear c6b0
    try clear c6b1
    try clear c6b2
    try clear hcz10_0
    try clear hcz10_1
    try clear hcz10_2
    try clear hcz10_3
    try clear hcz10_4
    try clear hcz10_5
    try clear hcz10_6
    try clear hcz10_7
    try clear hcz10_8
    try clear hcz12_0
    try clear hcz12_1
    try clear hcz12_2
    try clear hcz12_3
    try clear hcz12_4
    try clear hcz12_5
    try clear hcz12_6
    try clear hcz12_7
    try clear hcz12_8
    try clear hcz13_0
    try clear hcz13_1
    try clear hcz13_2
    try clear hcz13_3
    try clear hcz13_4
    try clear hcz13_5
    try clear hcz13_6
    try clear hcz13_7
    try clear hcz13_8
    try clear hcz7_0
    try clear hcz7_1
    try clear hcz7_2
    try clear hcz7_3
    try clear hcz7_4
    try clear hcz7_5
    try clear hcz7_6
    try clear hcz7_7
    try clear hcz7_8
    try clear hcz9_0
    try clear hcz9_1
    try clear hcz9_2
    try clear hcz9_3
    try clear hcz9_4
    try clear hcz9_5
    try clear hcz9_6
    try clear hcz9_7
    try clear hcz9_8
    try clear hfz10_0
    try clear hfz10_1
    try clear hfz10_2
    try clear hfz10_3
    try clear hfz10_4
    try clear hfz10_5
    try clear hfz10_6
    try clear hfz10_7
    try clear hfz10_8
    try clear hfz12_0
    try clear hfz12_1
    try clear hfz12_2
    try clear hfz12_3
    try clear hfz12_4
    try clear hfz12_5
    try clear hfz12_6
    try clear hfz12_7
    try clear hfz12_8
    try clear hfz13_0
    try clear hfz13_1
    try clear hfz13_2
    try clear hfz13_3
    try clear hfz13_4
    try clear hfz13_5
    try clear hfz13_6
    try clear hfz13_7
    try clear hfz13_8
    try clear hfz7_0
    try clear hfz7_1
    try clear hfz7_2
    try clear hfz7_3
    try clear hfz7_4
    try clear hfz7_5
    try clear hfz7_6
    try clear hfz7_7
    try clear hfz7_8
    try clear hfz9_0
    try clear hfz9_1
    try clear hfz9_2
    try clear hfz9_3
    try clear hfz9_4
    try clear hfz9_5
    try clear hfz9_6
    try clear hfz9_7
    try clear hfz9_8
    obtain ⟨kq,x3_1,rfl,HA,HJ1,BK114,HB⟩:=hcut
    cases kq with
    | zero=>exact absurd HA.out (by simp [spec_l6Ok.j0])
    | succ kj1 =>
      have H:=HA.out
      clear HA
      simp only [spec_l6Ok.j0] at H
      by_cases c15:a0_0=1
      · rw [if_pos c15] at H
        have c15b0:(a0_0==1)=true:=beq_iff_eq.mpr c15
        have c15b1:(a0_0 != 1)=false:=bne_eq_false_iff_eq.mpr c15
        clear c15
        by_cases c16:a0_1=0
        · rw [if_pos c16] at H
          have c16b0:(a0_1==0)=true:=beq_iff_eq.mpr c16
          have c16b1:(a0_1 != 0)=false:=bne_eq_false_iff_eq.mpr c16
          clear c16
          replace H:=Option.bind_eq_some_iff.mp H
          obtain ⟨t116,A170,H⟩:=H
          replace H:(if t116=true then ((spec_l2Ok.f kj1 a0_5 a0_6 l0_7 l0_8).bind fun t117=>(if t117=true then ((spec_l1In.f a0_4 0 9999).bind fun t118=>(some t118)) else (some false))) else (some false))=some r:=H
          have A17:=Aside0.mk A170
          clear A170
          by_cases c18:t116=true
          · subst c18
            have H1:((spec_l2Ok.f kj1 a0_5 a0_6 l0_7 l0_8).bind fun t117=>(if t117=true then ((spec_l1In.f a0_4 0 9999).bind fun t118=>(some t118)) else (some false)))=some r:=by rw [if_pos rfl] at H;exact H
            clear H
            have H:=H1
            clear H1
            replace H:=Option.bind_eq_some_iff.mp H
            obtain ⟨t117,A190,H⟩:=H
            replace H:(if t117=true then ((spec_l1In.f a0_4 0 9999).bind fun t118=>(some t118)) else (some false))=some r:=H
            have A19:=Aside0.mk A190
            clear A190
            by_cases c20:t117=true
            · subst c20
              have H1:((spec_l1In.f a0_4 0 9999).bind fun t118=>(some t118))=some r:=by rw [if_pos rfl] at H;exact H
              clear H
              have H:=H1
              clear H1
              replace H:=Option.bind_eq_some_iff.mp H
              obtain ⟨t118,A210,H⟩:=H
              replace H:(some t118)=some r:=H
              have A21:=Aside0.mk A210
              clear A210
              obtain rfl:=Option.some.inj H
              have hcz22_0:wc.cell? ⟨gb114,0,none⟩=some (.int .i64 a0_0):=(blk_cell BK114.out 0).trans rfl
              have hcz22_1:wc.cell? ⟨gb114,1,none⟩=some (.int .i64 a0_1):=(blk_cell BK114.out 1).trans rfl
              have hcz22_2:wc.cell? ⟨gb114,2,none⟩=some (.string a0_2):=(blk_cell BK114.out 2).trans rfl
              have hcz22_3:wc.cell? ⟨gb114,3,none⟩=some (.string a0_3):=(blk_cell BK114.out 3).trans rfl
              have hcz22_4:wc.cell? ⟨gb114,4,none⟩=some (.int .i64 a0_4):=(blk_cell BK114.out 4).trans rfl
              have hcz22_5:wc.cell? ⟨gb114,5,none⟩=some (.string a0_5):=(blk_cell BK114.out 5).trans rfl
              have hcz22_6:wc.cell? ⟨gb114,6,none⟩=some (.string a0_6):=(blk_cell BK114.out 6).trans rfl
              have hcz22_7:wc.cell? ⟨gb114,7,none⟩=some (.slice A0_7 l0_7.length c0_7):=(blk_cell BK114.out 7).trans rfl
              have hcz22_8:wc.cell? ⟨gb114,8,none⟩=some (.slice A0_8 l0_8.length c0_8):=(blk_cell BK114.out 8).trans rfl
              have hfz22_0:=blk_frozen BK114.out 0
              have hfz22_1:=blk_frozen BK114.out 1
              have hfz22_2:=blk_frozen BK114.out 2
              have hfz22_3:=blk_frozen BK114.out 3
              have hfz22_4:=blk_frozen BK114.out 4
              have hfz22_5:=blk_frozen BK114.out 5
              have hfz22_6:=blk_frozen BK114.out 6
              have hfz22_7:=blk_frozen BK114.out 7
              have hfz22_8:=blk_frozen BK114.out 8
              go_wp2_with (first|(go_at_call 56;(with_reducible refine (spec_l1Null.calls a0_2 a0_3 true _ A17.out).mono ?_);rintro e w23 ⟨rfl,hb⟩;have n0_:=Aside0.mk (blk_below (g:=gb114) (o:=.cells #[.int .i64 a0_0,.int .i64 a0_1,.string a0_2,.string a0_3,.int .i64 a0_4,.string a0_5,.string a0_6,.slice A0_7 l0_7.length c0_7,.slice A0_8 l0_8.length c0_8] 30 (0,0)) (by (with_reducible repeat (first|refine blk_drewN ?_ _|refine blk_drew ?_|refine blk_alloc ?_ _));exact BK114.out) hb);have n1_:=Aside0.mk (below_step (by repeat (first|(with_reducible first|exact HB.out|apply below_alloc|apply pw_below_drewN|apply below_drew1|refine below_set ?_ GE114.out)|exact HB.out)) hb);clear BK114;clear HB;have BK114:=n0_;have HB:=n1_;clear n0_ n1_;(try clear hb);(try clear hb2);(try clear hk);(try clear hi);have hcz24_0:w23.cell? ⟨gb114,0,none⟩=some (.int .i64 a0_0):=(blk_cell BK114.out 0).trans rfl;have hcz24_1:w23.cell? ⟨gb114,1,none⟩=some (.int .i64 a0_1):=(blk_cell BK114.out 1).trans rfl;have hcz24_2:w23.cell? ⟨gb114,2,none⟩=some (.string a0_2):=(blk_cell BK114.out 2).trans rfl;have hcz24_3:w23.cell? ⟨gb114,3,none⟩=some (.string a0_3):=(blk_cell BK114.out 3).trans rfl;have hcz24_4:w23.cell? ⟨gb114,4,none⟩=some (.int .i64 a0_4):=(blk_cell BK114.out 4).trans rfl;have hcz24_5:w23.cell? ⟨gb114,5,none⟩=some (.string a0_5):=(blk_cell BK114.out 5).trans rfl;have hcz24_6:w23.cell? ⟨gb114,6,none⟩=some (.string a0_6):=(blk_cell BK114.out 6).trans rfl;have hcz24_7:w23.cell? ⟨gb114,7,none⟩=some (.slice A0_7 l0_7.length c0_7):=(blk_cell BK114.out 7).trans rfl;have hcz24_8:w23.cell? ⟨gb114,8,none⟩=some (.slice A0_8 l0_8.length c0_8):=(blk_cell BK114.out 8).trans rfl;have hfz24_0:=blk_frozen BK114.out 0;have hfz24_1:=blk_frozen BK114.out 1;have hfz24_2:=blk_frozen BK114.out 2;have hfz24_3:=blk_frozen BK114.out 3;have hfz24_4:=blk_frozen BK114.out 4;have hfz24_5:=blk_frozen BK114.out 5;have hfz24_6:=blk_frozen BK114.out 6;have hfz24_7:=blk_frozen BK114.out 7;have hfz24_8:=blk_frozen BK114.out 8)|(go_at_call 57;(with_reducible refine (spec_l2Ok.calls kj1 a0_5 a0_6 _ _ l0_7 _ _ l0_8 true _ ?side1 ?side2 ?side3 ?side4 A19.out).mono ?_);(case side1=>repeat (first|exact (Kd.C_below HR0_7.out HB.out)|(with_reducible refine Kd.C_alloc ?_ _)|(with_reducible refine Kd.C_drewN ?_ _)|(with_reducible refine Kd.C_drew ?_)));(case side2=>exact HC0_7.out);(case side3=>repeat (first|exact (Kd.C_below HR0_8.out HB.out)|(with_reducible refine Kd.C_alloc ?_ _)|(with_reducible refine Kd.C_drewN ?_ _)|(with_reducible refine Kd.C_drew ?_)));(case side4=>exact HC0_8.out);rintro e w25 ⟨rfl,hb⟩;have n0_:=Aside0.mk (blk_below (g:=gb114) (o:=.cells #[.int .i64 a0_0,.int .i64 a0_1,.string a0_2,.string a0_3,.int .i64 a0_4,.string a0_5,.string a0_6,.slice A0_7 l0_7.length c0_7,.slice A0_8 l0_8.length c0_8] 30 (0,0)) (by (with_reducible repeat (first|refine blk_drewN ?_ _|refine blk_drew ?_|refine blk_alloc ?_ _));exact BK114.out) hb);have n1_:=Aside0.mk (below_step (by repeat (first|(with_reducible first|exact HB.out|apply below_alloc|apply pw_below_drewN|apply below_drew1|refine below_set ?_ GE114.out)|exact HB.out)) hb);clear BK114;clear HB;have BK114:=n0_;have HB:=n1_;clear n0_ n1_;(try clear hb);(try clear hb2);(try clear hk);(try clear hi);have hcz26_0:w25.cell? ⟨gb114,0,none⟩=some (.int .i64 a0_0):=(blk_cell BK114.out 0).trans rfl;have hcz26_1:w25.cell? ⟨gb114,1,none⟩=some (.int .i64 a0_1):=(blk_cell BK114.out 1).trans rfl;have hcz26_2:w25.cell? ⟨gb114,2,none⟩=some (.string a0_2):=(blk_cell BK114.out 2).trans rfl;have hcz26_3:w25.cell? ⟨gb114,3,none⟩=some (.string a0_3):=(blk_cell BK114.out 3).trans rfl;have hcz26_4:w25.cell? ⟨gb114,4,none⟩=some (.int .i64 a0_4):=(blk_cell BK114.out 4).trans rfl;have hcz26_5:w25.cell? ⟨gb114,5,none⟩=some (.string a0_5):=(blk_cell BK114.out 5).trans rfl;have hcz26_6:w25.cell? ⟨gb114,6,none⟩=some (.string a0_6):=(blk_cell BK114.out 6).trans rfl;have hcz26_7:w25.cell? ⟨gb114,7,none⟩=some (.slice A0_7 l0_7.length c0_7):=(blk_cell BK114.out 7).trans rfl;have hcz26_8:w25.cell? ⟨gb114,8,none⟩=some (.slice A0_8 l0_8.length c0_8):=(blk_cell BK114.out 8).trans rfl;have hfz26_0:=blk_frozen BK114.out 0;have hfz26_1:=blk_frozen BK114.out 1;have hfz26_2:=blk_frozen BK114.out 2;have hfz26_3:=blk_frozen BK114.out 3;have hfz26_4:=blk_frozen BK114.out 4;have hfz26_5:=blk_frozen BK114.out 5;have hfz26_6:=blk_frozen BK114.out 6;have hfz26_7:=blk_frozen BK114.out 7;have hfz26_8:=blk_frozen BK114.out 8)|(go_at_call 58;(with_reducible refine (spec_l1In.calls a0_4 0 9999 t118 _ A21.out).mono ?_);rintro e w' ⟨rfl,⟨nd,rfl⟩⟩))
              go_ret
              exact ⟨by first|rfl|(simp [errW_none,errW_some]<;>rfl)|(simp [*,errW_none,errW_some]<;>rfl),by repeat (first|(with_reducible first|exact HB.out|apply below_alloc|apply pw_below_drewN|apply below_drew1|refine below_set ?_ GE114.out)|exact HB.out)⟩
            · replace c20:=Bool.eq_false_iff.mpr c20
              subst c20
              have H1:(some false)=some r:=by rw [if_neg (show ¬ (false=true) by decide)] at H;exact H
              clear H
              have H:=H1
              clear H1
              obtain rfl:=Option.some.inj H
              have hcz27_0:wc.cell? ⟨gb114,0,none⟩=some (.int .i64 a0_0):=(blk_cell BK114.out 0).trans rfl
              have hcz27_1:wc.cell? ⟨gb114,1,none⟩=some (.int .i64 a0_1):=(blk_cell BK114.out 1).trans rfl
              have hcz27_2:wc.cell? ⟨gb114,2,none⟩=some (.string a0_2):=(blk_cell BK114.out 2).trans rfl
              have hcz27_3:wc.cell? ⟨gb114,3,none⟩=some (.string a0_3):=(blk_cell BK114.out 3).trans rfl
              have hcz27_4:wc.cell? ⟨gb114,4,none⟩=some (.int .i64 a0_4):=(blk_cell BK114.out 4).trans rfl
              have hcz27_5:wc.cell? ⟨gb114,5,none⟩=some (.string a0_5):=(blk_cell BK114.out 5).trans rfl
              have hcz27_6:wc.cell? ⟨gb114,6,none⟩=some (.string a0_6):=(blk_cell BK114.out 6).trans rfl
              have hcz27_7:wc.cell? ⟨gb114,7,none⟩=some (.slice A0_7 l0_7.length c0_7):=(blk_cell BK114.out 7).trans rfl
              have hcz27_8:wc.cell? ⟨gb114,8,none⟩=some (.slice A0_8 l0_8.length c0_8):=(blk_cell BK114.out 8).trans rfl
              have hfz27_0:=blk_frozen BK114.out 0
              have hfz27_1:=blk_frozen BK114.out 1
              have hfz27_2:=blk_frozen BK114.out 2
              have hfz27_3:=blk_frozen BK114.out 3
              have hfz27_4:=blk_frozen BK114.out 4
              have hfz27_5:=blk_frozen BK114.out 5
              have hfz27_6:=blk_frozen BK114.out 6
              have hfz27_7:=blk_frozen BK114.out 7
              have hfz27_8:=blk_frozen BK114.out 8
              go_wp2_with (first|(go_at_call 56;(with_reducible refine (spec_l1Null.calls a0_2 a0_3 true _ A17.out).mono ?_);rintro e w28 ⟨rfl,hb⟩;have n0_:=Aside0.mk (blk_below (g:=gb114) (o:=.cells #[.int .i64 a0_0,.int .i64 a0_1,.string a0_2,.string a0_3,.int .i64 a0_4,.string a0_5,.string a0_6,.slice A0_7 l0_7.length c0_7,.slice A0_8 l0_8.length c0_8] 30 (0,0)) (by (with_reducible repeat (first|refine blk_drewN ?_ _|refine blk_drew ?_|refine blk_alloc ?_ _));exact BK114.out) hb);have n1_:=Aside0.mk (below_step (by repeat (first|(with_reducible first|exact HB.out|apply below_alloc|apply pw_below_drewN|apply below_drew1|refine below_set ?_ GE114.out)|exact HB.out)) hb);clear BK114;clear HB;have BK114:=n0_;have HB:=n1_;clear n0_ n1_;(try clear hb);(try clear hb2);(try clear hk);(try clear hi);have hcz29_0:w28.cell? ⟨gb114,0,none⟩=some (.int .i64 a0_0):=(blk_cell BK114.out 0).trans rfl;have hcz29_1:w28.cell? ⟨gb114,1,none⟩=some (.int .i64 a0_1):=(blk_cell BK114.out 1).trans rfl;have hcz29_2:w28.cell? ⟨gb114,2,none⟩=some (.string a0_2):=(blk_cell BK114.out 2).trans rfl;have hcz29_3:w28.cell? ⟨gb114,3,none⟩=some (.string a0_3):=(blk_cell BK114.out 3).trans rfl;have hcz29_4:w28.cell? ⟨gb114,4,none⟩=some (.int .i64 a0_4):=(blk_cell BK114.out 4).trans rfl;have hcz29_5:w28.cell? ⟨gb114,5,none⟩=some (.string a0_5):=(blk_cell BK114.out 5).trans rfl;have hcz29_6:w28.cell? ⟨gb114,6,none⟩=some (.string a0_6):=(blk_cell BK114.out 6).trans rfl;have hcz29_7:w28.cell? ⟨gb114,7,none⟩=some (.slice A0_7 l0_7.length c0_7):=(blk_cell BK114.out 7).trans rfl;have hcz29_8:w28.cell? ⟨gb114,8,none⟩=some (.slice A0_8 l0_8.length c0_8):=(blk_cell BK114.out 8).trans rfl;have hfz29_0:=blk_frozen BK114.out 0;have hfz29_1:=blk_frozen BK114.out 1;have hfz29_2:=blk_frozen BK114.out 2;have hfz29_3:=blk_frozen BK114.out 3;have hfz29_4:=blk_frozen BK114.out 4;have hfz29_5:=blk_frozen BK114.out 5;have hfz29_6:=blk_frozen BK114.out 6;have hfz29_7:=blk_frozen BK114.out 7;have hfz29_8:=blk_frozen BK114.out 8)|(go_at_call 57;(with_reducible refine (spec_l2Ok.calls kj1 a0_5 a0_6 _ _ l0_7 _ _ l0_8 false _ ?side1 ?side2 ?side3 ?side4 A19.out).mono ?_);(case side1=>repeat (first|exact (Kd.C_below HR0_7.out HB.out)|(with_reducible refine Kd.C_alloc ?_ _)|(with_reducible refine Kd.C_drewN ?_ _)|(with_reducible refine Kd.C_drew ?_)));(case side2=>exact HC0_7.out);(case side3=>repeat (first|exact (Kd.C_below HR0_8.out HB.out)|(with_reducible refine Kd.C_alloc ?_ _)|(with_reducible refine Kd.C_drewN ?_ _)|(with_reducible refine Kd.C_drew ?_)));(case side4=>exact HC0_8.out);rintro e w30 ⟨rfl,hb⟩;have n0_:=Aside0.mk (blk_below (g:=gb114) (o:=.cells #[.int .i64 a0_0,.int .i64 a0_1,.string a0_2,.string a0_3,.int .i64 a0_4,.string a0_5,.string a0_6,.slice A0_7 l0_7.length c0_7,.slice A0_8 l0_8.length c0_8] 30 (0,0)) (by (with_reducible repeat (first|refine blk_drewN ?_ _|refine blk_drew ?_|refine blk_alloc ?_ _));exact BK114.out) hb);have n1_:=Aside0.mk (below_step (by repeat (first|(with_reducible first|exact HB.out|apply below_alloc|apply pw_below_drewN|apply below_drew1|refine below_set ?_ GE114.out)|exact HB.out)) hb);clear BK114;clear HB;have BK114:=n0_;have HB:=n1_;clear n0_ n1_;(try clear hb);(try clear hb2);(try clear hk);(try clear hi)))
              go_ret
              exact ⟨by first|rfl|(simp [errW_none,errW_some]<;>rfl)|(simp [*,errW_none,errW_some]<;>rfl),by repeat (first|(with_reducible first|exact HB.out|apply below_alloc|apply pw_below_drewN|apply below_drew1|refine below_set ?_ GE114.out)|exact HB.out)⟩
          · replace c18:=Bool.eq_false_iff.mpr c18
            subst c18
            have H1:(some false)=some r:=by rw [if_neg (show ¬ (false=true) by decide)] at H;exact H
            clear H
            have H:=H1
            clear H1
            obtain rfl:=Option.some.inj H
            have hcz31_0:wc.cell? ⟨gb114,0,none⟩=some (.int .i64 a0_0):=(blk_cell BK114.out 0).trans rfl
            have hcz31_1:wc.cell? ⟨gb114,1,none⟩=some (.int .i64 a0_1):=(blk_cell BK114.out 1).trans rfl
            have hcz31_2:wc.cell? ⟨gb114,2,none⟩=some (.string a0_2):=(blk_cell BK114.out 2).trans rfl
            have hcz31_3:wc.cell? ⟨gb114,3,none⟩=some (.string a0_3):=(blk_cell BK114.out 3).trans rfl
            have hcz31_4:wc.cell? ⟨gb114,4,none⟩=some (.int .i64 a0_4):=(blk_cell BK114.out 4).trans rfl
            have hcz31_5:wc.cell? ⟨gb114,5,none⟩=some (.string a0_5):=(blk_cell BK114.out 5).trans rfl
            have hcz31_6:wc.cell? ⟨gb114,6,none⟩=some (.string a0_6):=(blk_cell BK114.out 6).trans rfl
            have hcz31_7:wc.cell? ⟨gb114,7,none⟩=some (.slice A0_7 l0_7.length c0_7):=(blk_cell BK114.out 7).trans rfl
            have hcz31_8:wc.cell? ⟨gb114,8,none⟩=some (.slice A0_8 l0_8.length c0_8):=(blk_cell BK114.out 8).trans rfl
            have hfz31_0:=blk_frozen BK114.out 0
            have hfz31_1:=blk_frozen BK114.out 1
            have hfz31_2:=blk_frozen BK114.out 2
            have hfz31_3:=blk_frozen BK114.out 3
            have hfz31_4:=blk_frozen BK114.out 4
            have hfz31_5:=blk_frozen BK114.out 5
            have hfz31_6:=blk_frozen BK114.out 6
            have hfz31_7:=blk_frozen BK114.out 7
            have hfz31_8:=blk_frozen BK114.out 8
            go_wp2_with (first|(go_at_call 56;(with_reducible refine (spec_l1Null.calls a0_2 a0_3 false _ A17.out).mono ?_);rintro e w32 ⟨rfl,hb⟩;have n0_:=Aside0.mk (blk_below (g:=gb114) (o:=.cells #[.int .i64 a0_0,.int .i64 a0_1,.string a0_2,.string a0_3,.int .i64 a0_4,.string a0_5,.string a0_6,.slice A0_7 l0_7.length c0_7,.slice A0_8 l0_8.length c0_8] 30 (0,0)) (by (with_reducible repeat (first|refine blk_drewN ?_ _|refine blk_drew ?_|refine blk_alloc ?_ _));exact BK114.out) hb);have n1_:=Aside0.mk (below_step (by repeat (first|(with_reducible first|exact HB.out|apply below_alloc|apply pw_below_drewN|apply below_drew1|refine below_set ?_ GE114.out)|exact HB.out)) hb);clear BK114;clear HB;have BK114:=n0_;have HB:=n1_;clear n0_ n1_;(try clear hb);(try clear hb2);(try clear hk);(try clear hi)))
            go_ret
            exact ⟨by first|rfl|(simp [errW_none,errW_some]<;>rfl)|(simp [*,errW_none,errW_some]<;>rfl),by repeat (first|(with_reducible first|exact HB.out|apply below_alloc|apply pw_below_drewN|apply below_drew1|refine below_set ?_ GE114.out)|exact HB.out)⟩
        · rw [if_neg c16] at H
          have c16b0:(a0_1==0)=false:=beq_eq_false_iff_ne.mpr c16
          have c16b1:(a0_1 != 0)=true:=bne_iff_ne.mpr c16
          obtain rfl:=Option.some.inj H
          have hcz33_0:wc.cell? ⟨gb114,0,none⟩=some (.int .i64 a0_0):=(blk_cell BK114.out 0).trans rfl
          have hcz33_1:wc.cell? ⟨gb114,1,none⟩=some (.int .i64 a0_1):=(blk_cell BK114.out 1).trans rfl
          have hcz33_2:wc.cell? ⟨gb114,2,none⟩=some (.string a0_2):=(blk_cell BK114.out 2).trans rfl
          have hcz33_3:wc.cell? ⟨gb114,3,none⟩=some (.string a0_3):=(blk_cell BK114.out 3).trans rfl
          have hcz33_4:wc.cell? ⟨gb114,4,none⟩=some (.int .i64 a0_4):=(blk_cell BK114.out 4).trans rfl
          have hcz33_5:wc.cell? ⟨gb114,5,none⟩=some (.string a0_5):=(blk_cell BK114.out 5).trans rfl
          have hcz33_6:wc.cell? ⟨gb114,6,none⟩=some (.string a0_6):=(blk_cell BK114.out 6).trans rfl
          have hcz33_7:wc.cell? ⟨gb114,7,none⟩=some (.slice A0_7 l0_7.length c0_7):=(blk_cell BK114.out 7).trans rfl
          have hcz33_8:wc.cell? ⟨gb114,8,none⟩=some (.slice A0_8 l0_8.length c0_8):=(blk_cell BK114.out 8).trans rfl
          have hfz33_0:=blk_frozen BK114.out 0
          have hfz33_1:=blk_frozen BK114.out 1
          have hfz33_2:=blk_frozen BK114.out 2
          have hfz33_3:=blk_frozen BK114.out 3
          have hfz33_4:=blk_frozen BK114.out 4
          have hfz33_5:=blk_frozen BK114.out 5
          have hfz33_6:=blk_frozen BK114.out 6
          have hfz33_7:=blk_frozen BK114.out 7
          have hfz33_8:=blk_frozen BK114.out 8
          go_wp2
          go_ret
          exact ⟨by first|rfl|(simp [errW_none,errW_some]<;>rfl)|(simp [*,errW_none,errW_some]<;>rfl),by repeat (first|(with_reducible first|exact HB.out|apply below_alloc|apply pw_below_drewN|apply below_drew1|refine below_set ?_ GE114.out)|exact HB.out)⟩
      · rw [if_neg c15] at H
        have c15b0:(a0_0==1)=false:=beq_eq_false_iff_ne.mpr c15
        have c15b1:(a0_0 != 1)=true:=bne_iff_ne.mpr c15
        by_cases c34:a0_0=2
        · rw [if_pos c34] at H
          have c34b0:(a0_0==2)=true:=beq_iff_eq.mpr c34
          have c34b1:(a0_0 != 2)=false:=bne_eq_false_iff_eq.mpr c34
          clear c34
          by_cases c35:x3_1=true
          · subst c35
            have H1:((spec_l1In.f a0_1 1 999).bind fun t119=>(if t119=true then ((spec_l1AddrOk.f kj1 a0_2 a0_3).bind fun t120=>(if t120=true then (some (a0_4==0)) else (some false))) else (some false)))=some r:=by rw [if_pos rfl] at H;exact H
            clear H
            have H:=H1
            clear H1
            replace H:=Option.bind_eq_some_iff.mp H
            obtain ⟨t119,A360,H⟩:=H
            replace H:(if t119=true then ((spec_l1AddrOk.f kj1 a0_2 a0_3).bind fun t120=>(if t120=true then (some (a0_4==0)) else (some false))) else (some false))=some r:=H
            have A36:=Aside0.mk A360
            clear A360
            by_cases c37:t119=true
            · subst c37
              have H1:((spec_l1AddrOk.f kj1 a0_2 a0_3).bind fun t120=>(if t120=true then (some (a0_4==0)) else (some false)))=some r:=by rw [if_pos rfl] at H;exact H
              clear H
              have H:=H1
              clear H1
              replace H:=Option.bind_eq_some_iff.mp H
              obtain ⟨t120,A380,H⟩:=H
              replace H:(if t120=true then (some (a0_4==0)) else (some false))=some r:=H
              have A38:=Aside0.mk A380
              clear A380
              by_cases c39:t120=true
              · subst c39
                have H1:(some (a0_4==0))=some r:=by rw [if_pos rfl] at H;exact H
                clear H
                have H:=H1
                clear H1
                obtain rfl:=Option.some.inj H
                have hcz40_0:wc.cell? ⟨gb114,0,none⟩=some (.int .i64 a0_0):=(blk_cell BK114.out 0).trans rfl
                have hcz40_1:wc.cell? ⟨gb114,1,none⟩=some (.int .i64 a0_1):=(blk_cell BK114.out 1).trans rfl
                have hcz40_2:wc.cell? ⟨gb114,2,none⟩=some (.string a0_2):=(blk_cell BK114.out 2).trans rfl
                have hcz40_3:wc.cell? ⟨gb114,3,none⟩=some (.string a0_3):=(blk_cell BK114.out 3).trans rfl
                have hcz40_4:wc.cell? ⟨gb114,4,none⟩=some (.int .i64 a0_4):=(blk_cell BK114.out 4).trans rfl
                have hcz40_5:wc.cell? ⟨gb114,5,none⟩=some (.string a0_5):=(blk_cell BK114.out 5).trans rfl
                have hcz40_6:wc.cell? ⟨gb114,6,none⟩=some (.string a0_6):=(blk_cell BK114.out 6).trans rfl
                have hcz40_7:wc.cell? ⟨gb114,7,none⟩=some (.slice A0_7 l0_7.length c0_7):=(blk_cell BK114.out 7).trans rfl
                have hcz40_8:wc.cell? ⟨gb114,8,none⟩=some (.slice A0_8 l0_8.length c0_8):=(blk_cell BK114.out 8).trans rfl
                have hfz40_0:=blk_frozen BK114.out 0
                have hfz40_1:=blk_frozen BK114.out 1
                have hfz40_2:=blk_frozen BK114.out 2
                have hfz40_3:=blk_frozen BK114.out 3
                have hfz40_4:=blk_frozen BK114.out 4
                have hfz40_5:=blk_frozen BK114.out 5
                have hfz40_6:=blk_frozen BK114.out 6
                have hfz40_7:=blk_frozen BK114.out 7
                have hfz40_8:=blk_frozen BK114.out 8
                go_wp2_with (first|(go_at_call 58;(with_reducible refine (spec_l1In.calls a0_1 1 999 true _ A36.out).mono ?_);rintro e w' ⟨rfl,⟨nd,rfl⟩⟩)|(go_at_call 59;(with_reducible refine (spec_l1AddrOk.calls kj1 a0_2 a0_3 true _ A38.out).mono ?_);rintro e w41 ⟨rfl,hb⟩;have n0_:=Aside0.mk (blk_below (g:=gb114) (o:=.cells #[.int .i64 a0_0,.int .i64 a0_1,.string a0_2,.string a0_3,.int .i64 a0_4,.string a0_5,.string a0_6,.slice A0_7 l0_7.length c0_7,.slice A0_8 l0_8.length c0_8] 30 (0,0)) (by (with_reducible repeat (first|refine blk_drewN ?_ _|refine blk_drew ?_|refine blk_alloc ?_ _));exact BK114.out) hb);have n1_:=Aside0.mk (below_step (by repeat (first|(with_reducible first|exact HB.out|apply below_alloc|apply pw_below_drewN|apply below_drew1|refine below_set ?_ GE114.out)|exact HB.out)) hb);clear BK114;clear HB;have BK114:=n0_;have HB:=n1_;clear n0_ n1_;(try clear hb);(try clear hb2);(try clear hk);(try clear hi);have hcz42_0:w41.cell? ⟨gb114,0,none⟩=some (.int .i64 a0_0):=(blk_cell BK114.out 0).trans rfl;have hcz42_1:w41.cell? ⟨gb114,1,none⟩=some (.int .i64 a0_1):=(blk_cell BK114.out 1).trans rfl;have hcz42_2:w41.cell? ⟨gb114,2,none⟩=some (.string a0_2):=(blk_cell BK114.out 2).trans rfl;have hcz42_3:w41.cell? ⟨gb114,3,none⟩=some (.string a0_3):=(blk_cell BK114.out 3).trans rfl;have hcz42_4:w41.cell? ⟨gb114,4,none⟩=some (.int .i64 a0_4):=(blk_cell BK114.out 4).trans rfl;have hcz42_5:w41.cell? ⟨gb114,5,none⟩=some (.string a0_5):=(blk_cell BK114.out 5).trans rfl;have hcz42_6:w41.cell? ⟨gb114,6,none⟩=some (.string a0_6):=(blk_cell BK114.out 6).trans rfl;have hcz42_7:w41.cell? ⟨gb114,7,none⟩=some (.slice A0_7 l0_7.length c0_7):=(blk_cell BK114.out 7).trans rfl;have hcz42_8:w41.cell? ⟨gb114,8,none⟩=some (.slice A0_8 l0_8.length c0_8):=(blk_cell BK114.out 8).trans rfl;have hfz42_0:=blk_frozen BK114.out 0;have hfz42_1:=blk_frozen BK114.out 1;have hfz42_2:=blk_frozen BK114.out 2;have hfz42_3:=blk_frozen BK114.out 3;have hfz42_4:=blk_frozen BK114.out 4;have hfz42_5:=blk_frozen BK114.out 5;have hfz42_6:=blk_frozen BK114.out 6;have hfz42_7:=blk_frozen BK114.out 7;have hfz42_8:=blk_frozen BK114.out 8))
                go_ret
                exact ⟨by first|rfl|(simp [errW_none,errW_some]<;>rfl)|(simp [*,errW_none,errW_some]<;>rfl),by repeat (first|(with_reducible first|exact HB.out|apply below_alloc|apply pw_below_drewN|apply below_drew1|refine below_set ?_ GE114.out)|exact HB.out)⟩
              · replace c39:=Bool.eq_false_iff.mpr c39
                subst c39
                have H1:(some false)=some r:=by rw [if_neg (show ¬ (false=true) by decide)] at H;exact H
                clear H
                have H:=H1
                clear H1
                obtain rfl:=Option.some.inj H
                have hcz43_0:wc.cell? ⟨gb114,0,none⟩=some (.int .i64 a0_0):=(blk_cell BK114.out 0).trans rfl
                have hcz43_1:wc.cell? ⟨gb114,1,none⟩=some (.int .i64 a0_1):=(blk_cell BK114.out 1).trans rfl
                have hcz43_2:wc.cell? ⟨gb114,2,none⟩=some (.string a0_2):=(blk_cell BK114.out 2).trans rfl
                have hcz43_3:wc.cell? ⟨gb114,3,none⟩=some (.string a0_3):=(blk_cell BK114.out 3).trans rfl
                have hcz43_4:wc.cell? ⟨gb114,4,none⟩=some (.int .i64 a0_4):=(blk_cell BK114.out 4).trans rfl
                have hcz43_5:wc.cell? ⟨gb114,5,none⟩=some (.string a0_5):=(blk_cell BK114.out 5).trans rfl
                have hcz43_6:wc.cell? ⟨gb114,6,none⟩=some (.string a0_6):=(blk_cell BK114.out 6).trans rfl
                have hcz43_7:wc.cell? ⟨gb114,7,none⟩=some (.slice A0_7 l0_7.length c0_7):=(blk_cell BK114.out 7).trans rfl
                have hcz43_8:wc.cell? ⟨gb114,8,none⟩=some (.slice A0_8 l0_8.length c0_8):=(blk_cell BK114.out 8).trans rfl
                have hfz43_0:=blk_frozen BK114.out 0
                have hfz43_1:=blk_frozen BK114.out 1
                have hfz43_2:=blk_frozen BK114.out 2
                have hfz43_3:=blk_frozen BK114.out 3
                have hfz43_4:=blk_frozen BK114.out 4
                have hfz43_5:=blk_frozen BK114.out 5
                have hfz43_6:=blk_frozen BK114.out 6
                have hfz43_7:=blk_frozen BK114.out 7
                have hfz43_8:=blk_frozen BK114.out 8
                go_wp2_with (first|(go_at_call 58;(with_reducible refine (spec_l1In.calls a0_1 1 999 true _ A36.out).mono ?_);rintro e w' ⟨rfl,⟨nd,rfl⟩⟩)|(go_at_call 59;(with_reducible refine (spec_l1AddrOk.calls kj1 a0_2 a0_3 false _ A38.out).mono ?_);rintro e w44 ⟨rfl,hb⟩;have n0_:=Aside0.mk (blk_below (g:=gb114) (o:=.cells #[.int .i64 a0_0,.int .i64 a0_1,.string a0_2,.string a0_3,.int .i64 a0_4,.string a0_5,.string a0_6,.slice A0_7 l0_7.length c0_7,.slice A0_8 l0_8.length c0_8] 30 (0,0)) (by (with_reducible repeat (first|refine blk_drewN ?_ _|refine blk_drew ?_|refine blk_alloc ?_ _));exact BK114.out) hb);have n1_:=Aside0.mk (below_step (by repeat (first|(with_reducible first|exact HB.out|apply below_alloc|apply pw_below_drewN|apply below_drew1|refine below_set ?_ GE114.out)|exact HB.out)) hb);clear BK114;clear HB;have BK114:=n0_;have HB:=n1_;clear n0_ n1_;(try clear hb);(try clear hb2);(try clear hk);(try clear hi)))
                go_ret
                exact ⟨by first|rfl|(simp [errW_none,errW_some]<;>rfl)|(simp [*,errW_none,errW_some]<;>rfl),by repeat (first|(with_reducible first|exact HB.out|apply below_alloc|apply pw_below_drewN|apply below_drew1|refine below_set ?_ GE114.out)|exact HB.out)⟩
            · replace c37:=Bool.eq_false_iff.mpr c37
              subst c37
              have H1:(some false)=some r:=by rw [if_neg (show ¬ (false=true) by decide)] at H;exact H
              clear H
              have H:=H1
              clear H1
              obtain rfl:=Option.some.inj H
              have hcz45_0:wc.cell? ⟨gb114,0,none⟩=some (.int .i64 a0_0):=(blk_cell BK114.out 0).trans rfl
              have hcz45_1:wc.cell? ⟨gb114,1,none⟩=some (.int .i64 a0_1):=(blk_cell BK114.out 1).trans rfl
              have hcz45_2:wc.cell? ⟨gb114,2,none⟩=some (.string a0_2):=(blk_cell BK114.out 2).trans rfl
              have hcz45_3:wc.cell? ⟨gb114,3,none⟩=some (.string a0_3):=(blk_cell BK114.out 3).trans rfl
              have hcz45_4:wc.cell? ⟨gb114,4,none⟩=some (.int .i64 a0_4):=(blk_cell BK114.out 4).trans rfl
              have hcz45_5:wc.cell? ⟨gb114,5,none⟩=some (.string a0_5):=(blk_cell BK114.out 5).trans rfl
              have hcz45_6:wc.cell? ⟨gb114,6,none⟩=some (.string a0_6):=(blk_cell BK114.out 6).trans rfl
              have hcz45_7:wc.cell? ⟨gb114,7,none⟩=some (.slice A0_7 l0_7.length c0_7):=(blk_cell BK114.out 7).trans rfl
              have hcz45_8:wc.cell? ⟨gb114,8,none⟩=some (.slice A0_8 l0_8.length c0_8):=(blk_cell BK114.out 8).trans rfl
              have hfz45_0:=blk_frozen BK114.out 0
              have hfz45_1:=blk_frozen BK114.out 1
              have hfz45_2:=blk_frozen BK114.out 2
              have hfz45_3:=blk_frozen BK114.out 3
              have hfz45_4:=blk_frozen BK114.out 4
              have hfz45_5:=blk_frozen BK114.out 5
              have hfz45_6:=blk_frozen BK114.out 6
              have hfz45_7:=blk_frozen BK114.out 7
              have hfz45_8:=blk_frozen BK114.out 8
              go_wp2_with (first|(go_at_call 58;(with_reducible refine (spec_l1In.calls a0_1 1 999 false _ A36.out).mono ?_);rintro e w' ⟨rfl,⟨nd,rfl⟩⟩))
              go_ret
              exact ⟨by first|rfl|(simp [errW_none,errW_some]<;>rfl)|(simp [*,errW_none,errW_some]<;>rfl),by repeat (first|(with_reducible first|exact HB.out|apply below_alloc|apply pw_below_drewN|apply below_drew1|refine below_set ?_ GE114.out)|exact HB.out)⟩
          · replace c35:=Bool.eq_false_iff.mpr c35
            subst c35
            have H1:(some false)=some r:=by rw [if_neg (show ¬ (false=true) by decide)] at H;exact H
            clear H
            have H:=H1
            clear H1
            obtain rfl:=Option.some.inj H
            have hcz46_0:wc.cell? ⟨gb114,0,none⟩=some (.int .i64 a0_0):=(blk_cell BK114.out 0).trans rfl
            have hcz46_1:wc.cell? ⟨gb114,1,none⟩=some (.int .i64 a0_1):=(blk_cell BK114.out 1).trans rfl
            have hcz46_2:wc.cell? ⟨gb114,2,none⟩=some (.string a0_2):=(blk_cell BK114.out 2).trans rfl
            have hcz46_3:wc.cell? ⟨gb114,3,none⟩=some (.string a0_3):=(blk_cell BK114.out 3).trans rfl
            have hcz46_4:wc.cell? ⟨gb114,4,none⟩=some (.int .i64 a0_4):=(blk_cell BK114.out 4).trans rfl
            have hcz46_5:wc.cell? ⟨gb114,5,none⟩=some (.string a0_5):=(blk_cell BK114.out 5).trans rfl
            have hcz46_6:wc.cell? ⟨gb114,6,none⟩=some (.string a0_6):=(blk_cell BK114.out 6).trans rfl
            have hcz46_7:wc.cell? ⟨gb114,7,none⟩=some (.slice A0_7 l0_7.length c0_7):=(blk_cell BK114.out 7).trans rfl
            have hcz46_8:wc.cell? ⟨gb114,8,none⟩=some (.slice A0_8 l0_8.length c0_8):=(blk_cell BK114.out 8).trans rfl
            have hfz46_0:=blk_frozen BK114.out 0
            have hfz46_1:=blk_frozen BK114.out 1
            have hfz46_2:=blk_frozen BK114.out 2
            have hfz46_3:=blk_frozen BK114.out 3
            have hfz46_4:=blk_frozen BK114.out 4
            have hfz46_5:=blk_frozen BK114.out 5
            have hfz46_6:=blk_frozen BK114.out 6
            have hfz46_7:=blk_frozen BK114.out 7
            have hfz46_8:=blk_frozen BK114.out 8
            go_wp2
            go_ret
            exact ⟨by first|rfl|(simp [errW_none,errW_some]<;>rfl)|(simp [*,errW_none,errW_some]<;>rfl),by repeat (first|(with_reducible first|exact HB.out|apply below_alloc|apply pw_below_drewN|apply below_drew1|refine below_set ?_ GE114.out)|exact HB.out)⟩
        · rw [if_neg c34] at H
          have c34b0:(a0_0==2)=false:=beq_eq_false_iff_ne.mpr c34
          have c34b1:(a0_0 != 2)=true:=bne_iff_ne.mpr c34
          by_cases c47:a0_0=3
          · rw [if_pos c47] at H
            have c47b0:(a0_0==3)=true:=beq_iff_eq.mpr c47
            have c47b1:(a0_0 != 3)=false:=bne_eq_false_iff_eq.mpr c47
            clear c47
            by_cases c48:x3_1=true
            · subst c48
              have H1:((spec_l1In.f a0_1 1 999).bind fun t121=>(if t121=true then ((spec_l1AddrOk.f kj1 a0_2 a0_3).bind fun t122=>(if t122=true then ((spec_l1In.f a0_4 0 9999).bind fun t123=>(some t123)) else (some false))) else (some false)))=some r:=by rw [if_pos rfl] at H;exact H
              clear H
              have H:=H1
              clear H1
              replace H:=Option.bind_eq_some_iff.mp H
              obtain ⟨t121,A490,H⟩:=H
              replace H:(if t121=true then ((spec_l1AddrOk.f kj1 a0_2 a0_3).bind fun t122=>(if t122=true then ((spec_l1In.f a0_4 0 9999).bind fun t123=>(some t123)) else (some false))) else (some false))=some r:=H
              have A49:=Aside0.mk A490
              clear A490
              by_cases c50:t121=true
              · subst c50
                have H1:((spec_l1AddrOk.f kj1 a0_2 a0_3).bind fun t122=>(if t122=true then ((spec_l1In.f a0_4 0 9999).bind fun t123=>(some t123)) else (some false)))=some r:=by rw [if_pos rfl] at H;exact H
                clear H
                have H:=H1
                clear H1
                replace H:=Option.bind_eq_some_iff.mp H
                obtain ⟨t122,A510,H⟩:=H
                replace H:(if t122=true then ((spec_l1In.f a0_4 0 9999).bind fun t123=>(some t123)) else (some false))=some r:=H
                have A51:=Aside0.mk A510
                clear A510
                by_cases c52:t122=true
                · subst c52
                  have H1:((spec_l1In.f a0_4 0 9999).bind fun t123=>(some t123))=some r:=by rw [if_pos rfl] at H;exact H
                  clear H
                  have H:=H1
                  clear H1
                  replace H:=Option.bind_eq_some_iff.mp H
                  obtain ⟨t123,A530,H⟩:=H
                  replace H:(some t123)=some r:=H
                  have A53:=Aside0.mk A530
                  clear A530
                  obtain rfl:=Option.some.inj H
                  have hcz54_0:wc.cell? ⟨gb114,0,none⟩=some (.int .i64 a0_0):=(blk_cell BK114.out 0).trans rfl
                  have hcz54_1:wc.cell? ⟨gb114,1,none⟩=some (.int .i64 a0_1):=(blk_cell BK114.out 1).trans rfl
                  have hcz54_2:wc.cell? ⟨gb114,2,none⟩=some (.string a0_2):=(blk_cell BK114.out 2).trans rfl
                  have hcz54_3:wc.cell? ⟨gb114,3,none⟩=some (.string a0_3):=(blk_cell BK114.out 3).trans rfl
                  have hcz54_4:wc.cell? ⟨gb114,4,none⟩=some (.int .i64 a0_4):=(blk_cell BK114.out 4).trans rfl
                  have hcz54_5:wc.cell? ⟨gb114,5,none⟩=some (.string a0_5):=(blk_cell BK114.out 5).trans rfl
                  have hcz54_6:wc.cell? ⟨gb114,6,none⟩=some (.string a0_6):=(blk_cell BK114.out 6).trans rfl
                  have hcz54_7:wc.cell? ⟨gb114,7,none⟩=some (.slice A0_7 l0_7.length c0_7):=(blk_cell BK114.out 7).trans rfl
                  have hcz54_8:wc.cell? ⟨gb114,8,none⟩=some (.slice A0_8 l0_8.length c0_8):=(blk_cell BK114.out 8).trans rfl
                  have hfz54_0:=blk_frozen BK114.out 0
                  have hfz54_1:=blk_frozen BK114.out 1
                  have hfz54_2:=blk_frozen BK114.out 2
                  have hfz54_3:=blk_frozen BK114.out 3
                  have hfz54_4:=blk_frozen BK114.out 4
                  have hfz54_5:=blk_frozen BK114.out 5
                  have hfz54_6:=blk_frozen BK114.out 6
                  have hfz54_7:=blk_frozen BK114.out 7
                  have hfz54_8:=blk_frozen BK114.out 8
                  go_wp2_with (first|(go_at_call 58;(with_reducible refine (spec_l1In.calls a0_1 1 999 true _ A49.out).mono ?_);rintro e w' ⟨rfl,⟨nd,rfl⟩⟩)|(go_at_call 59;(with_reducible refine (spec_l1AddrOk.calls kj1 a0_2 a0_3 true _ A51.out).mono ?_);rintro e w55 ⟨rfl,hb⟩;have n0_:=Aside0.mk (blk_below (g:=gb114) (o:=.cells #[.int .i64 a0_0,.int .i64 a0_1,.string a0_2,.string a0_3,.int .i64 a0_4,.string a0_5,.string a0_6,.slice A0_7 l0_7.length c0_7,.slice A0_8 l0_8.length c0_8] 30 (0,0)) (by (with_reducible repeat (first|refine blk_drewN ?_ _|refine blk_drew ?_|refine blk_alloc ?_ _));exact BK114.out) hb);have n1_:=Aside0.mk (below_step (by repeat (first|(with_reducible first|exact HB.out|apply below_alloc|apply pw_below_drewN|apply below_drew1|refine below_set ?_ GE114.out)|exact HB.out)) hb);clear BK114;clear HB;have BK114:=n0_;have HB:=n1_;clear n0_ n1_;(try clear hb);(try clear hb2);(try clear hk);(try clear hi);have hcz56_0:w55.cell? ⟨gb114,0,none⟩=some (.int .i64 a0_0):=(blk_cell BK114.out 0).trans rfl;have hcz56_1:w55.cell? ⟨gb114,1,none⟩=some (.int .i64 a0_1):=(blk_cell BK114.out 1).trans rfl;have hcz56_2:w55.cell? ⟨gb114,2,none⟩=some (.string a0_2):=(blk_cell BK114.out 2).trans rfl;have hcz56_3:w55.cell? ⟨gb114,3,none⟩=some (.string a0_3):=(blk_cell BK114.out 3).trans rfl;have hcz56_4:w55.cell? ⟨gb114,4,none⟩=some (.int .i64 a0_4):=(blk_cell BK114.out 4).trans rfl;have hcz56_5:w55.cell? ⟨gb114,5,none⟩=some (.string a0_5):=(blk_cell BK114.out 5).trans rfl;have hcz56_6:w55.cell? ⟨gb114,6,none⟩=some (.string a0_6):=(blk_cell BK114.out 6).trans rfl;have hcz56_7:w55.cell? ⟨gb114,7,none⟩=some (.slice A0_7 l0_7.length c0_7):=(blk_cell BK114.out 7).trans rfl;have hcz56_8:w55.cell? ⟨gb114,8,none⟩=some (.slice A0_8 l0_8.length c0_8):=(blk_cell BK114.out 8).trans rfl;have hfz56_0:=blk_frozen BK114.out 0;have hfz56_1:=blk_frozen BK114.out 1;have hfz56_2:=blk_frozen BK114.out 2;have hfz56_3:=blk_frozen BK114.out 3;have hfz56_4:=blk_frozen BK114.out 4;have hfz56_5:=blk_frozen BK114.out 5;have hfz56_6:=blk_frozen BK114.out 6;have hfz56_7:=blk_frozen BK114.out 7;have hfz56_8:=blk_frozen BK114.out 8)|(go_at_call 58;(with_reducible refine (spec_l1In.calls a0_4 0 9999 t123 _ A53.out).mono ?_);rintro e w' ⟨rfl,⟨nd,rfl⟩⟩))
                  go_ret
                  exact ⟨by first|rfl|(simp [errW_none,errW_some]<;>rfl)|(simp [*,errW_none,errW_some]<;>rfl),by repeat (first|(with_reducible first|exact HB.out|apply below_alloc|apply pw_below_drewN|apply below_drew1|refine below_set ?_ GE114.out)|exact HB.out)⟩
                · replace c52:=Bool.eq_false_iff.mpr c52
                  subst c52
                  have H1:(some false)=some r:=by rw [if_neg (show ¬ (false=true) by decide)] at H;exact H
                  clear H
                  have H:=H1
                  clear H1
                  obtain rfl:=Option.some.inj H
                  have hcz57_0:wc.cell? ⟨gb114,0,none⟩=some (.int .i64 a0_0):=(blk_cell BK114.out 0).trans rfl
                  have hcz57_1:wc.cell? ⟨gb114,1,none⟩=some (.int .i64 a0_1):=(blk_cell BK114.out 1).trans rfl
                  have hcz57_2:wc.cell? ⟨gb114,2,none⟩=some (.string a0_2):=(blk_cell BK114.out 2).trans rfl
                  have hcz57_3:wc.cell? ⟨gb114,3,none⟩=some (.string a0_3):=(blk_cell BK114.out 3).trans rfl
                  have hcz57_4:wc.cell? ⟨gb114,4,none⟩=some (.int .i64 a0_4):=(blk_cell BK114.out 4).trans rfl
                  have hcz57_5:wc.cell? ⟨gb114,5,none⟩=some (.string a0_5):=(blk_cell BK114.out 5).trans rfl
                  have hcz57_6:wc.cell? ⟨gb114,6,none⟩=some (.string a0_6):=(blk_cell BK114.out 6).trans rfl
                  have hcz57_7:wc.cell? ⟨gb114,7,none⟩=some (.slice A0_7 l0_7.length c0_7):=(blk_cell BK114.out 7).trans rfl
                  have hcz57_8:wc.cell? ⟨gb114,8,none⟩=some (.slice A0_8 l0_8.length c0_8):=(blk_cell BK114.out 8).trans rfl
                  have hfz57_0:=blk_frozen BK114.out 0
                  have hfz57_1:=blk_frozen BK114.out 1
                  have hfz57_2:=blk_frozen BK114.out 2
                  have hfz57_3:=blk_frozen BK114.out 3
                  have hfz57_4:=blk_frozen BK114.out 4
                  have hfz57_5:=blk_frozen BK114.out 5
                  have hfz57_6:=blk_frozen BK114.out 6
                  have hfz57_7:=blk_frozen BK114.out 7
                  have hfz57_8:=blk_frozen BK114.out 8
                  go_wp2_with (first|(go_at_call 58;(with_reducible refine (spec_l1In.calls a0_1 1 999 true _ A49.out).mono ?_);rintro e w' ⟨rfl,⟨nd,rfl⟩⟩)|(go_at_call 59;(with_reducible refine (spec_l1AddrOk.calls kj1 a0_2 a0_3 false _ A51.out).mono ?_);rintro e w58 ⟨rfl,hb⟩;have n0_:=Aside0.mk (blk_below (g:=gb114) (o:=.cells #[.int .i64 a0_0,.int .i64 a0_1,.string a0_2,.string a0_3,.int .i64 a0_4,.string a0_5,.string a0_6,.slice A0_7 l0_7.length c0_7,.slice A0_8 l0_8.length c0_8] 30 (0,0)) (by (with_reducible repeat (first|refine blk_drewN ?_ _|refine blk_drew ?_|refine blk_alloc ?_ _));exact BK114.out) hb);have n1_:=Aside0.mk (below_step (by repeat (first|(with_reducible first|exact HB.out|apply below_alloc|apply pw_below_drewN|apply below_drew1|refine below_set ?_ GE114.out)|exact HB.out)) hb);clear BK114;clear HB;have BK114:=n0_;have HB:=n1_;clear n0_ n1_;(try clear hb);(try clear hb2);(try clear hk);(try clear hi)))
                  go_ret
                  exact ⟨by first|rfl|(simp [errW_none,errW_some]<;>rfl)|(simp [*,errW_none,errW_some]<;>rfl),by repeat (first|(with_reducible first|exact HB.out|apply below_alloc|apply pw_below_drewN|apply below_drew1|refine below_set ?_ GE114.out)|exact HB.out)⟩
              · replace c50:=Bool.eq_false_iff.mpr c50
                subst c50
                have H1:(some false)=some r:=by rw [if_neg (show ¬ (false=true) by decide)] at H;exact H
                clear H
                have H:=H1
                clear H1
                obtain rfl:=Option.some.inj H
                have hcz59_0:wc.cell? ⟨gb114,0,none⟩=some (.int .i64 a0_0):=(blk_cell BK114.out 0).trans rfl
                have hcz59_1:wc.cell? ⟨gb114,1,none⟩=some (.int .i64 a0_1):=(blk_cell BK114.out 1).trans rfl
                have hcz59_2:wc.cell? ⟨gb114,2,none⟩=some (.string a0_2):=(blk_cell BK114.out 2).trans rfl
                have hcz59_3:wc.cell? ⟨gb114,3,none⟩=some (.string a0_3):=(blk_cell BK114.out 3).trans rfl
                have hcz59_4:wc.cell? ⟨gb114,4,none⟩=some (.int .i64 a0_4):=(blk_cell BK114.out 4).trans rfl
                have hcz59_5:wc.cell? ⟨gb114,5,none⟩=some (.string a0_5):=(blk_cell BK114.out 5).trans rfl
                have hcz59_6:wc.cell? ⟨gb114,6,none⟩=some (.string a0_6):=(blk_cell BK114.out 6).trans rfl
                have hcz59_7:wc.cell? ⟨gb114,7,none⟩=some (.slice A0_7 l0_7.length c0_7):=(blk_cell BK114.out 7).trans rfl
                have hcz59_8:wc.cell? ⟨gb114,8,none⟩=some (.slice A0_8 l0_8.length c0_8):=(blk_cell BK114.out 8).trans rfl
                have hfz59_0:=blk_frozen BK114.out 0
                have hfz59_1:=blk_frozen BK114.out 1
                have hfz59_2:=blk_frozen BK114.out 2
                have hfz59_3:=blk_frozen BK114.out 3
                have hfz59_4:=blk_frozen BK114.out 4
                have hfz59_5:=blk_frozen BK114.out 5
                have hfz59_6:=blk_frozen BK114.out 6
                have hfz59_7:=blk_frozen BK114.out 7
                have hfz59_8:=blk_frozen BK114.out 8
                go_wp2_with (first|(go_at_call 58;(with_reducible refine (spec_l1In.calls a0_1 1 999 false _ A49.out).mono ?_);rintro e w' ⟨rfl,⟨nd,rfl⟩⟩))
                go_ret
                exact ⟨by first|rfl|(simp [errW_none,errW_some]<;>rfl)|(simp [*,errW_none,errW_some]<;>rfl),by repeat (first|(with_reducible first|exact HB.out|apply below_alloc|apply pw_below_drewN|apply below_drew1|refine below_set ?_ GE114.out)|exact HB.out)⟩
            · replace c48:=Bool.eq_false_iff.mpr c48
              subst c48
              have H1:(some false)=some r:=by rw [if_neg (show ¬ (false=true) by decide)] at H;exact H
              clear H
              have H:=H1
              clear H1
              obtain rfl:=Option.some.inj H
              have hcz60_0:wc.cell? ⟨gb114,0,none⟩=some (.int .i64 a0_0):=(blk_cell BK114.out 0).trans rfl
              have hcz60_1:wc.cell? ⟨gb114,1,none⟩=some (.int .i64 a0_1):=(blk_cell BK114.out 1).trans rfl
              have hcz60_2:wc.cell? ⟨gb114,2,none⟩=some (.string a0_2):=(blk_cell BK114.out 2).trans rfl
              have hcz60_3:wc.cell? ⟨gb114,3,none⟩=some (.string a0_3):=(blk_cell BK114.out 3).trans rfl
              have hcz60_4:wc.cell? ⟨gb114,4,none⟩=some (.int .i64 a0_4):=(blk_cell BK114.out 4).trans rfl
              have hcz60_5:wc.cell? ⟨gb114,5,none⟩=some (.string a0_5):=(blk_cell BK114.out 5).trans rfl
              have hcz60_6:wc.cell? ⟨gb114,6,none⟩=some (.string a0_6):=(blk_cell BK114.out 6).trans rfl
              have hcz60_7:wc.cell? ⟨gb114,7,none⟩=some (.slice A0_7 l0_7.length c0_7):=(blk_cell BK114.out 7).trans rfl
              have hcz60_8:wc.cell? ⟨gb114,8,none⟩=some (.slice A0_8 l0_8.length c0_8):=(blk_cell BK114.out 8).trans rfl
              have hfz60_0:=blk_frozen BK114.out 0
              have hfz60_1:=blk_frozen BK114.out 1
              have hfz60_2:=blk_frozen BK114.out 2
              have hfz60_3:=blk_frozen BK114.out 3
              have hfz60_4:=blk_frozen BK114.out 4
              have hfz60_5:=blk_frozen BK114.out 5
              have hfz60_6:=blk_frozen BK114.out 6
              have hfz60_7:=blk_frozen BK114.out 7
              have hfz60_8:=blk_frozen BK114.out 8
              go_wp2
              go_ret
              exact ⟨by first|rfl|(simp [errW_none,errW_some]<;>rfl)|(simp [*,errW_none,errW_some]<;>rfl),by repeat (first|(with_reducible first|exact HB.out|apply below_alloc|apply pw_below_drewN|apply below_drew1|refine below_set ?_ GE114.out)|exact HB.out)⟩
          · rw [if_neg c47] at H
            have c47b0:(a0_0==3)=false:=beq_eq_false_iff_ne.mpr c47
            have c47b1:(a0_0 != 3)=true:=bne_iff_ne.mpr c47
            obtain rfl:=Option.some.inj H
            have hcz61_0:wc.cell? ⟨gb114,0,none⟩=some (.int .i64 a0_0):=(blk_cell BK114.out 0).trans rfl
            have hcz61_1:wc.cell? ⟨gb114,1,none⟩=some (.int .i64 a0_1):=(blk_cell BK114.out 1).trans rfl
            have hcz61_2:wc.cell? ⟨gb114,2,none⟩=some (.string a0_2):=(blk_cell BK114.out 2).trans rfl
            have hcz61_3:wc.cell? ⟨gb114,3,none⟩=some (.string a0_3):=(blk_cell BK114.out 3).trans rfl
            have hcz61_4:wc.cell? ⟨gb114,4,none⟩=some (.int .i64 a0_4):=(blk_cell BK114.out 4).trans rfl
            have hcz61_5:wc.cell? ⟨gb114,5,none⟩=some (.string a0_5):=(blk_cell BK114.out 5).trans rfl
            have hcz61_6:wc.cell? ⟨gb114,6,none⟩=some (.string a0_6):=(blk_cell BK114.out 6).trans rfl
            have hcz61_7:wc.cell? ⟨gb114,7,none⟩=some (.slice A0_7 l0_7.length c0_7):=(blk_cell BK114.out 7).trans rfl
            have hcz61_8:wc.cell? ⟨gb114,8,none⟩=some (.slice A0_8 l0_8.length c0_8):=(blk_cell BK114.out 8).trans rfl
            have hfz61_0:=blk_frozen BK114.out 0
            have hfz61_1:=blk_frozen BK114.out 1
            have hfz61_2:=blk_frozen BK114.out 2
            have hfz61_3:=blk_frozen BK114.out 3
            have hfz61_4:=blk_frozen BK114.out 4
            have hfz61_5:=blk_frozen BK114.out 5
            have hfz61_6:=blk_frozen BK114.out 6
            have hfz61_7:=blk_frozen BK114.out 7
            have hfz61_8:=blk_frozen BK114.out 8
            go_wp2
            go_ret
            exact ⟨by first|rfl|(simp [errW_none,errW_some]<;>rfl)|(simp [*,errW_none,errW_some]<;>rfl),by repeat (first|(with_reducible first|exact HB.out|apply below_alloc|apply pw_below_drewN|apply below_drew1|refine below_set ?_ GE114.out)|exact HB.out)⟩
end Go.Proofs.YtjdpdkdhfnpcgaaGreatDoor.Q
