/- Of a text of ours what this claim needs. -/
import Derived.Test.YtjdpdkdhfnpcgaaGreatDoorZzFnExactNotePutWQ0
import Derived.Test.YtjdpdkdhfnpcgaaGreatDoorZzFnExactNotePutWQ11
import Derived.Test.YtjdpdkdhfnpcgaaGreatDoorZzFnExactNotePutWQ13
import Derived.Test.YtjdpdkdhfnpcgaaGreatDoorZzFnExactNotePutWHSplit
namespace Go.Proofs.YtjdpdkdhfnpcgaaGreatDoor.Q
open Go.RowKit Go.Proofs.YtjdpdkdhfnpcgaaGreatDoorW.PrintWords Go.Proofs.YtjdpdkdhfnpcgaaGreatDoorW.PrintLast Go.Proofs.YtjdpdkdhfnpcgaaGreatDoorW.PrintMore
attribute [local go_sem] max2_int min2_int max_two min_two max_three min_three max_four min_four
set_option linter.unusedVariables false
set_option linter.unusedSimpArgs false
def impl_NoteOk.j0:Nat→Bool→Int→Int→ByteArray→ByteArray→Int→ByteArray→ByteArray→List (S24)→List ByteArray→Option (Bool)
  | 0,_,_,_,_,_,_,_,_,_,_=>none
  | k+1,x3,x103000,x103001,x103002,x103003,x103004,x103005,x103006,x103007,x103008=>if x103000=1 then ((impl_MailOk.f k x103005 x103006 x103007 x103008).bind fun t106=>(if t106=true then ((impl_isTime.f x103004).bind fun t107=>(if t107=true then (if x103001=0 then ((impl_Addr_null.f x103002 x103003).bind fun t108=>(some t108)) else (some false)) else (some false))) else (some false))) else (if x103000=2 then (if x3=true then (some (x103004==0)) else (some false)) else (if x103000=3 then (if x3=true then ((impl_isTime.f x103004).bind fun t109=>(some t109)) else (some false)) else (some false)))
def impl_NoteOk.f (k:Nat) (a0_0:Int) (a0_1:Int) (a0_2:ByteArray) (a0_3:ByteArray) (a0_4:Int) (a0_5:ByteArray) (a0_6:ByteArray) (l0_7:List (S24)) (l0_8:List ByteArray):Option (Bool):=(impl_within.f a0_1 1 999).bind fun t103=>(if t103=true then ((impl_AddrOk.f k a0_2 a0_3).bind fun t104=>(if t104=true then ((impl_Mail_empty.f a0_5 a0_6 l0_7 l0_8).bind fun t105=>(impl_NoteOk.j0 k t105 a0_0 a0_1 a0_2 a0_3 a0_4 a0_5 a0_6 l0_7 l0_8)) else (impl_NoteOk.j0 k false a0_0 a0_1 a0_2 a0_3 a0_4 a0_5 a0_6 l0_7 l0_8))) else (impl_NoteOk.j0 k false a0_0 a0_1 a0_2 a0_3 a0_4 a0_5 a0_6 l0_7 l0_8))
set_option maxHeartbeats 8000000 in
set_option maxRecDepth 100000 in
theorem impl_NoteOk.calls (k:Nat) (a0_0:Int) (a0_1:Int) (a0_2:ByteArray) (a0_3:ByteArray) (a0_4:Int) (a0_5:ByteArray) (a0_6:ByteArray) (A0_7:Option Addr) (c0_7:Nat) (l0_7:List (S24)) (A0_8:Option Addr) (c0_8:Nat) (l0_8:List ByteArray) (r:Bool) (w:World) (hr0_7:Kd.C k24 w A0_7 l0_7.length l0_7) (hc0_7:l0_7.length≤c0_7) (hr0_8:Kd.C Kd.string w A0_8 l0_8.length l0_8) (hc0_8:l0_8.length≤c0_8) (hG:GOK w) (h:impl_NoteOk.f k a0_0 a0_1 a0_2 a0_3 a0_4 a0_5 a0_6 l0_7 l0_8=some r) :
    Calls Tryz.prog 10 #[.agg #[.int .i64 a0_0,.int .i64 a0_1,.string a0_2,.string a0_3,.int .i64 a0_4,.string a0_5,.string a0_6,.slice A0_7 l0_7.length c0_7,.slice A0_8 l0_8.length c0_8]] w fun e w'=>e=.returned (.bool r)∧Below w.heap.size w w':=by
  have hu30:=Tryz.underlying30
  have hu24:=Tryz.underlying24
  have hu28:=Tryz.underlying28
  have HR0_7:=Aside0.mk hr0_7
  have HC0_7:=Aside0.mk hc0_7
  clear hr0_7 hc0_7
  have HR0_8:=Aside0.mk hr0_8
  have HC0_8:=Aside0.mk hc0_8
  clear hr0_8 hc0_8
  have HG:=Aside0.mk hG
  clear hG
  have HB:=Aside0.mk (Below.refl w.heap.size w)
  have H:((impl_within.f a0_1 1 999).bind fun t103=>(if t103=true then ((impl_AddrOk.f k a0_2 a0_3).bind fun t104=>(if t104=true then ((impl_Mail_empty.f a0_5 a0_6 l0_7 l0_8).bind fun t105=>(impl_NoteOk.j0 k t105 a0_0 a0_1 a0_2 a0_3 a0_4 a0_5 a0_6 l0_7 l0_8)) else (impl_NoteOk.j0 k false a0_0 a0_1 a0_2 a0_3 a0_4 a0_5 a0_6 l0_7 l0_8))) else (impl_NoteOk.j0 k false a0_0 a0_1 a0_2 a0_3 a0_4 a0_5 a0_6 l0_7 l0_8)))=some r:=h
  clear h
  have HC2:=Aside0.mk H
  clear H
  go_enter Tryz.func10,Tryz.ntmps10
  go_upto_region 1 with (first|((with_reducible refine gate_dst (N:=1) rfl ?_);refine box_event ?hg (N:=1) ?hd (cs:=#[.int .i64 a0_0,.int .i64 a0_1,.string a0_2,.string a0_3,.int .i64 a0_4,.string a0_5,.string a0_6,.slice A0_7 l0_7.length c0_7,.slice A0_8 l0_8.length c0_8]) (t:=30) ?hr ?_;(case hd=>rfl);(case hg=>rfl);(case hr=>first|(go_simp;done)|(go_simp;rfl));intro gb102 hg w3 hbox hb;have n0_:=Aside0.mk (below_step (by repeat (first|(with_reducible first|exact HB.out|apply below_alloc|apply pw_below_drewN|apply below_drew1)|exact HB.out)) hb);have n1_:=Aside0.mk (hbox);have n2_:=Aside0.mk ((by rw [hg];exact (below_size (by repeat (first|(with_reducible first|exact HB.out|apply below_alloc|apply pw_below_drewN|apply below_drew1)|exact HB.out))):w.heap.size≤gb102));have n3_:=Aside0.mk ((by rw [hg];exact (below_size (by repeat (first|(with_reducible first|exact HB.out|apply below_alloc|apply pw_below_drewN|apply below_drew1)|exact HB.out))):w.heap.size≤gb102));clear HB;have HB:=n0_;have BK102:=n1_;have GW102:=n2_;have GE102:=n3_;clear n0_ n1_ n2_ n3_;clear hb hbox hg))
  (try simp only [Act.put,List.setIfInBounds_toArray,List.set_cons_zero,List.set_cons_succ])
  go_cut [3] (fun v3 wc=>∃ (kq:Nat) (x3_1:Bool),v3=.bool x3_1∧Aside0 (impl_NoteOk.j0 kq x3_1 a0_0 a0_1 a0_2 a0_3 a0_4 a0_5 a0_6 l0_7 l0_8=some r)∧Aside0 (kq≤k)∧Aside0 (wc.heap[gb102]?=some (.cells #[.int .i64 a0_0,.int .i64 a0_1,.string a0_2,.string a0_3,.int .i64 a0_4,.string a0_5,.string a0_6,(.slice A0_7 l0_7.length c0_7),(.slice A0_8 l0_8.length c0_8)] 30 (0,0)))∧Aside0 (Below w.heap.size w wc))
  case first =>
    have H:=HC2.out
    clear HC2
    replace H:=Option.bind_eq_some_iff.mp H
    obtain ⟨t103,A40,H⟩:=H
    replace H:(if t103=true then ((impl_AddrOk.f k a0_2 a0_3).bind fun t104=>(if t104=true then ((impl_Mail_empty.f a0_5 a0_6 l0_7 l0_8).bind fun t105=>(impl_NoteOk.j0 k t105 a0_0 a0_1 a0_2 a0_3 a0_4 a0_5 a0_6 l0_7 l0_8)) else (impl_NoteOk.j0 k false a0_0 a0_1 a0_2 a0_3 a0_4 a0_5 a0_6 l0_7 l0_8))) else (impl_NoteOk.j0 k false a0_0 a0_1 a0_2 a0_3 a0_4 a0_5 a0_6 l0_7 l0_8))=some r:=H
    have A4:=Aside0.mk A40
    clear A40
    by_cases c5:t103=true
    · subst c5
      have H1:((impl_AddrOk.f k a0_2 a0_3).bind fun t104=>(if t104=true then ((impl_Mail_empty.f a0_5 a0_6 l0_7 l0_8).bind fun t105=>(impl_NoteOk.j0 k t105 a0_0 a0_1 a0_2 a0_3 a0_4 a0_5 a0_6 l0_7 l0_8)) else (impl_NoteOk.j0 k false a0_0 a0_1 a0_2 a0_3 a0_4 a0_5 a0_6 l0_7 l0_8)))=some r:=by rw [if_pos rfl] at H;exact H
      clear H
      have H:=H1
      clear H1
      replace H:=Option.bind_eq_some_iff.mp H
      obtain ⟨t104,A60,H⟩:=H
      replace H:(if t104=true then ((impl_Mail_empty.f a0_5 a0_6 l0_7 l0_8).bind fun t105=>(impl_NoteOk.j0 k t105 a0_0 a0_1 a0_2 a0_3 a0_4 a0_5 a0_6 l0_7 l0_8)) else (impl_NoteOk.j0 k false a0_0 a0_1 a0_2 a0_3 a0_4 a0_5 a0_6 l0_7 l0_8))=some r:=H
      have A6:=Aside0.mk A60
      clear A60
      by_cases c7:t104=true
      · subst c7
        have H1:((impl_Mail_empty.f a0_5 a0_6 l0_7 l0_8).bind fun t105=>(impl_NoteOk.j0 k t105 a0_0 a0_1 a0_2 a0_3 a0_4 a0_5 a0_6 l0_7 l0_8))=some r:=by rw [if_pos rfl] at H;exact H
        clear H
        have H:=H1
        clear H1
        replace H:=Option.bind_eq_some_iff.mp H
        obtain ⟨t105,A80,H⟩:=H
        replace H:(impl_NoteOk.j0 k t105 a0_0 a0_1 a0_2 a0_3 a0_4 a0_5 a0_6 l0_7 l0_8)=some r:=H
        have A8:=Aside0.mk A80
        clear A80
        have H':=Aside0.mk H
        clear H
        have hcz9_0:w3.cell? ⟨gb102,0,none⟩=some (.int .i64 a0_0):=(blk_cell BK102.out 0).trans rfl
        have hcz9_1:w3.cell? ⟨gb102,1,none⟩=some (.int .i64 a0_1):=(blk_cell BK102.out 1).trans rfl
        have hcz9_2:w3.cell? ⟨gb102,2,none⟩=some (.string a0_2):=(blk_cell BK102.out 2).trans rfl
        have hcz9_3:w3.cell? ⟨gb102,3,none⟩=some (.string a0_3):=(blk_cell BK102.out 3).trans rfl
        have hcz9_4:w3.cell? ⟨gb102,4,none⟩=some (.int .i64 a0_4):=(blk_cell BK102.out 4).trans rfl
        have hcz9_5:w3.cell? ⟨gb102,5,none⟩=some (.string a0_5):=(blk_cell BK102.out 5).trans rfl
        have hcz9_6:w3.cell? ⟨gb102,6,none⟩=some (.string a0_6):=(blk_cell BK102.out 6).trans rfl
        have hcz9_7:w3.cell? ⟨gb102,7,none⟩=some (.slice A0_7 l0_7.length c0_7):=(blk_cell BK102.out 7).trans rfl
        have hcz9_8:w3.cell? ⟨gb102,8,none⟩=some (.slice A0_8 l0_8.length c0_8):=(blk_cell BK102.out 8).trans rfl
        have hfz9_0:=blk_frozen BK102.out 0
        have hfz9_1:=blk_frozen BK102.out 1
        have hfz9_2:=blk_frozen BK102.out 2
        have hfz9_3:=blk_frozen BK102.out 3
        have hfz9_4:=blk_frozen BK102.out 4
        have hfz9_5:=blk_frozen BK102.out 5
        have hfz9_6:=blk_frozen BK102.out 6
        have hfz9_7:=blk_frozen BK102.out 7
        have hfz9_8:=blk_frozen BK102.out 8
        go_wp2_with (first|((with_reducible refine gate_callee (f:=27) rfl ?_);refine goesL_ (some 6) rfl rfl Tryz.func27 (by kernel_rfl) rfl #[.int .i64 a0_1,.int .i64 1,.int .i64 999] rfl (by (try simp only [List.map_toArray,List.map_cons,List.map_nil]);first|done|rfl|(simp only [List.length_drop,List.length_take];rfl)) ?_;(with_reducible refine (impl_within.calls a0_1 1 999 true _ A4.out).mono ?_);rintro e w' ⟨rfl,⟨nd,rfl⟩⟩;refine ⟨_,rfl,?_⟩)|(go_at_call 28;(with_reducible refine (impl_AddrOk.calls k a0_2 a0_3 true _ ?side1 A6.out).mono ?_);(case side1=>first|(with_reducible exact HG.out)|((with_reducible repeat (first|exact HG.out|apply GOK.drewN|apply GOK.drew));done)|exact GOK.below HG.out (by repeat (first|(with_reducible first|exact HB.out|apply below_alloc|apply pw_below_drewN|apply below_drew1|refine below_set ?_ GE102.out)|exact HB.out)));rintro e w10 ⟨rfl,hb⟩;have n0_:=Aside0.mk (blk_below (g:=gb102) (o:=.cells #[.int .i64 a0_0,.int .i64 a0_1,.string a0_2,.string a0_3,.int .i64 a0_4,.string a0_5,.string a0_6,.slice A0_7 l0_7.length c0_7,.slice A0_8 l0_8.length c0_8] 30 (0,0)) (by (with_reducible repeat (first|refine blk_drewN ?_ _|refine blk_drew ?_|refine blk_alloc ?_ _));exact BK102.out) hb);have n1_:=Aside0.mk (below_step (by repeat (first|(with_reducible first|exact HB.out|apply below_alloc|apply pw_below_drewN|apply below_drew1|refine below_set ?_ GE102.out)|exact HB.out)) hb);clear BK102;clear HB;have BK102:=n0_;have HB:=n1_;clear n0_ n1_;(try clear hb);(try clear hb2);(try clear hk);(try clear hi);have hcz11_0:w10.cell? ⟨gb102,0,none⟩=some (.int .i64 a0_0):=(blk_cell BK102.out 0).trans rfl;have hcz11_1:w10.cell? ⟨gb102,1,none⟩=some (.int .i64 a0_1):=(blk_cell BK102.out 1).trans rfl;have hcz11_2:w10.cell? ⟨gb102,2,none⟩=some (.string a0_2):=(blk_cell BK102.out 2).trans rfl;have hcz11_3:w10.cell? ⟨gb102,3,none⟩=some (.string a0_3):=(blk_cell BK102.out 3).trans rfl;have hcz11_4:w10.cell? ⟨gb102,4,none⟩=some (.int .i64 a0_4):=(blk_cell BK102.out 4).trans rfl;have hcz11_5:w10.cell? ⟨gb102,5,none⟩=some (.string a0_5):=(blk_cell BK102.out 5).trans rfl;have hcz11_6:w10.cell? ⟨gb102,6,none⟩=some (.string a0_6):=(blk_cell BK102.out 6).trans rfl;have hcz11_7:w10.cell? ⟨gb102,7,none⟩=some (.slice A0_7 l0_7.length c0_7):=(blk_cell BK102.out 7).trans rfl;have hcz11_8:w10.cell? ⟨gb102,8,none⟩=some (.slice A0_8 l0_8.length c0_8):=(blk_cell BK102.out 8).trans rfl;have hfz11_0:=blk_frozen BK102.out 0;have hfz11_1:=blk_frozen BK102.out 1;have hfz11_2:=blk_frozen BK102.out 2;have hfz11_3:=blk_frozen BK102.out 3;have hfz11_4:=blk_frozen BK102.out 4;have hfz11_5:=blk_frozen BK102.out 5;have hfz11_6:=blk_frozen BK102.out 6;have hfz11_7:=blk_frozen BK102.out 7;have hfz11_8:=blk_frozen BK102.out 8)|(go_at_call 29;(with_reducible refine (impl_Mail_empty.calls a0_5 a0_6 _ _ l0_7 _ _ l0_8 t105 _ ?side1 ?side2 ?side3 ?side4 A8.out).mono ?_);(case side1=>repeat (first|exact (Kd.C_below HR0_7.out HB.out)|(with_reducible refine Kd.C_alloc ?_ _)|(with_reducible refine Kd.C_drewN ?_ _)|(with_reducible refine Kd.C_drew ?_)));(case side2=>exact HC0_7.out);(case side3=>repeat (first|exact (Kd.C_below HR0_8.out HB.out)|(with_reducible refine Kd.C_alloc ?_ _)|(with_reducible refine Kd.C_drewN ?_ _)|(with_reducible refine Kd.C_drew ?_)));(case side4=>exact HC0_8.out);rintro e w12 ⟨rfl,hb⟩;have n0_:=Aside0.mk (blk_below (g:=gb102) (o:=.cells #[.int .i64 a0_0,.int .i64 a0_1,.string a0_2,.string a0_3,.int .i64 a0_4,.string a0_5,.string a0_6,.slice A0_7 l0_7.length c0_7,.slice A0_8 l0_8.length c0_8] 30 (0,0)) (by (with_reducible repeat (first|refine blk_drewN ?_ _|refine blk_drew ?_|refine blk_alloc ?_ _));exact BK102.out) hb);have n1_:=Aside0.mk (below_step (by repeat (first|(with_reducible first|exact HB.out|apply below_alloc|apply pw_below_drewN|apply below_drew1|refine below_set ?_ GE102.out)|exact HB.out)) hb);clear BK102;clear HB;have BK102:=n0_;have HB:=n1_;clear n0_ n1_;(try clear hb);(try clear hb2);(try clear hk);(try clear hi)))
        go_meet
        case rel=>exact ⟨_,(t105),(by first|rfl|(simp;done)|(simp [*];done)),H',⟨by first|omega|exact Nat.le_refl _⟩,⟨by (with_reducible repeat (first|refine blk_drewN ?_ _|refine blk_drew ?_|refine blk_alloc ?_ _));exact BK102.out⟩,⟨by repeat (first|(with_reducible first|exact HB.out|apply below_alloc|apply pw_below_drewN|apply below_drew1|refine below_set ?_ GE102.out)|exact HB.out)⟩⟩
      · replace c7:=Bool.eq_false_iff.mpr c7
        subst c7
        have H1:(impl_NoteOk.j0 k false a0_0 a0_1 a0_2 a0_3 a0_4 a0_5 a0_6 l0_7 l0_8)=some r:=by rw [if_neg (show ¬ (false=true) by decide)] at H;exact H
        clear H
        have H:=H1
        clear H1
        have H':=Aside0.mk H
        clear H
        have hcz13_0:w3.cell? ⟨gb102,0,none⟩=some (.int .i64 a0_0):=(blk_cell BK102.out 0).trans rfl
        have hcz13_1:w3.cell? ⟨gb102,1,none⟩=some (.int .i64 a0_1):=(blk_cell BK102.out 1).trans rfl
        have hcz13_2:w3.cell? ⟨gb102,2,none⟩=some (.string a0_2):=(blk_cell BK102.out 2).trans rfl
        have hcz13_3:w3.cell? ⟨gb102,3,none⟩=some (.string a0_3):=(blk_cell BK102.out 3).trans rfl
        have hcz13_4:w3.cell? ⟨gb102,4,none⟩=some (.int .i64 a0_4):=(blk_cell BK102.out 4).trans rfl
        have hcz13_5:w3.cell? ⟨gb102,5,none⟩=some (.string a0_5):=(blk_cell BK102.out 5).trans rfl
        have hcz13_6:w3.cell? ⟨gb102,6,none⟩=some (.string a0_6):=(blk_cell BK102.out 6).trans rfl
        have hcz13_7:w3.cell? ⟨gb102,7,none⟩=some (.slice A0_7 l0_7.length c0_7):=(blk_cell BK102.out 7).trans rfl
        have hcz13_8:w3.cell? ⟨gb102,8,none⟩=some (.slice A0_8 l0_8.length c0_8):=(blk_cell BK102.out 8).trans rfl
        have hfz13_0:=blk_frozen BK102.out 0
        have hfz13_1:=blk_frozen BK102.out 1
        have hfz13_2:=blk_frozen BK102.out 2
        have hfz13_3:=blk_frozen BK102.out 3
        have hfz13_4:=blk_frozen BK102.out 4
        have hfz13_5:=blk_frozen BK102.out 5
        have hfz13_6:=blk_frozen BK102.out 6
        have hfz13_7:=blk_frozen BK102.out 7
        have hfz13_8:=blk_frozen BK102.out 8
        go_wp2_with (first|((with_reducible refine gate_callee (f:=27) rfl ?_);refine goesL_ (some 6) rfl rfl Tryz.func27 (by kernel_rfl) rfl #[.int .i64 a0_1,.int .i64 1,.int .i64 999] rfl (by (try simp only [List.map_toArray,List.map_cons,List.map_nil]);first|done|rfl|(simp only [List.length_drop,List.length_take];rfl)) ?_;(with_reducible refine (impl_within.calls a0_1 1 999 true _ A4.out).mono ?_);rintro e w' ⟨rfl,⟨nd,rfl⟩⟩;refine ⟨_,rfl,?_⟩)|(go_at_call 28;(with_reducible refine (impl_AddrOk.calls k a0_2 a0_3 false _ ?side1 A6.out).mono ?_);(case side1=>first|(with_reducible exact HG.out)|((with_reducible repeat (first|exact HG.out|apply GOK.drewN|apply GOK.drew));done)|exact GOK.below HG.out (by repeat (first|(with_reducible first|exact HB.out|apply below_alloc|apply pw_below_drewN|apply below_drew1|refine below_set ?_ GE102.out)|exact HB.out)));rintro e w14 ⟨rfl,hb⟩;have n0_:=Aside0.mk (blk_below (g:=gb102) (o:=.cells #[.int .i64 a0_0,.int .i64 a0_1,.string a0_2,.string a0_3,.int .i64 a0_4,.string a0_5,.string a0_6,.slice A0_7 l0_7.length c0_7,.slice A0_8 l0_8.length c0_8] 30 (0,0)) (by (with_reducible repeat (first|refine blk_drewN ?_ _|refine blk_drew ?_|refine blk_alloc ?_ _));exact BK102.out) hb);have n1_:=Aside0.mk (below_step (by repeat (first|(with_reducible first|exact HB.out|apply below_alloc|apply pw_below_drewN|apply below_drew1|refine below_set ?_ GE102.out)|exact HB.out)) hb);clear BK102;clear HB;have BK102:=n0_;have HB:=n1_;clear n0_ n1_;(try clear hb);(try clear hb2);(try clear hk);(try clear hi)))
        go_meet
        case rel=>exact ⟨_,(false),(by first|rfl|(simp;done)|(simp [*];done)),H',⟨by first|omega|exact Nat.le_refl _⟩,⟨by (with_reducible repeat (first|refine blk_drewN ?_ _|refine blk_drew ?_|refine blk_alloc ?_ _));exact BK102.out⟩,⟨by repeat (first|(with_reducible first|exact HB.out|apply below_alloc|apply pw_below_drewN|apply below_drew1|refine below_set ?_ GE102.out)|exact HB.out)⟩⟩
    · replace c5:=Bool.eq_false_iff.mpr c5
      subst c5
      have H1:(impl_NoteOk.j0 k false a0_0 a0_1 a0_2 a0_3 a0_4 a0_5 a0_6 l0_7 l0_8)=some r:=by rw [if_neg (show ¬ (false=true) by decide)] at H;exact H
      clear H
      have H:=H1
      clear H1
      have H':=Aside0.mk H
      clear H
      have hcz15_0:w3.cell? ⟨gb102,0,none⟩=some (.int .i64 a0_0):=(blk_cell BK102.out 0).trans rfl
      have hcz15_1:w3.cell? ⟨gb102,1,none⟩=some (.int .i64 a0_1):=(blk_cell BK102.out 1).trans rfl
      have hcz15_2:w3.cell? ⟨gb102,2,none⟩=some (.string a0_2):=(blk_cell BK102.out 2).trans rfl
      have hcz15_3:w3.cell? ⟨gb102,3,none⟩=some (.string a0_3):=(blk_cell BK102.out 3).trans rfl
      have hcz15_4:w3.cell? ⟨gb102,4,none⟩=some (.int .i64 a0_4):=(blk_cell BK102.out 4).trans rfl
      have hcz15_5:w3.cell? ⟨gb102,5,none⟩=some (.string a0_5):=(blk_cell BK102.out 5).trans rfl
      have hcz15_6:w3.cell? ⟨gb102,6,none⟩=some (.string a0_6):=(blk_cell BK102.out 6).trans rfl
      have hcz15_7:w3.cell? ⟨gb102,7,none⟩=some (.slice A0_7 l0_7.length c0_7):=(blk_cell BK102.out 7).trans rfl
      have hcz15_8:w3.cell? ⟨gb102,8,none⟩=some (.slice A0_8 l0_8.length c0_8):=(blk_cell BK102.out 8).trans rfl
      have hfz15_0:=blk_frozen BK102.out 0
      have hfz15_1:=blk_frozen BK102.out 1
      have hfz15_2:=blk_frozen BK102.out 2
      have hfz15_3:=blk_frozen BK102.out 3
      have hfz15_4:=blk_frozen BK102.out 4
      have hfz15_5:=blk_frozen BK102.out 5
      have hfz15_6:=blk_frozen BK102.out 6
      have hfz15_7:=blk_frozen BK102.out 7
      have hfz15_8:=blk_frozen BK102.out 8
      go_wp2_with (first|((with_reducible refine gate_callee (f:=27) rfl ?_);refine goesL_ (some 6) rfl rfl Tryz.func27 (by kernel_rfl) rfl #[.int .i64 a0_1,.int .i64 1,.int .i64 999] rfl (by (try simp only [List.map_toArray,List.map_cons,List.map_nil]);first|done|rfl|(simp only [List.length_drop,List.length_take];rfl)) ?_;(with_reducible refine (impl_within.calls a0_1 1 999 false _ A4.out).mono ?_);rintro e w' ⟨rfl,⟨nd,rfl⟩⟩;refine ⟨_,rfl,?_⟩))
      go_meet
      case rel=>exact ⟨_,(false),(by first|rfl|(simp;done)|(simp [*];done)),H',⟨by first|omega|exact Nat.le_refl _⟩,⟨by (with_reducible repeat (first|refine blk_drewN ?_ _|refine blk_drew ?_|refine blk_alloc ?_ _));exact BK102.out⟩,⟨by repeat (first|(with_reducible first|exact HB.out|apply below_alloc|apply pw_below_drewN|apply below_drew1|refine below_set ?_ GE102.out)|exact HB.out)⟩⟩
  case rest =>
    clear HC2
    try clear c1
    try clear c2
    try clear p2
    try clear c5
    try clear c7
    try clear c10
    try clear hcz11_0
    try clear hcz11_1
    try clear hcz11_2
    try clear hcz11_3
    try clear hcz11_4
    try clear hcz11_5
    try clear hcz11_6
    try clear hcz11_7
    try clear hcz11_8
    try clear hcz13_0
    try clear hcz13_1
    try clear hcz13_2
    try clear hcz13_3
    try clear hcz13_4
    try clear hcz13_5
    try clear hcz13_6
    try clear hcz13_7
    try clear hcz13_8
    try clear hcz15_0
    try clear hcz15_1
    try clear hcz15_2
    try clear hcz15_3
    try clear hcz15_4
    try clear hcz15_5
    try clear hcz15_6
    try clear hcz15_7
    try clear hcz15_8
    try clear hcz9_0
    try clear hcz9_1
    try clear hcz9_2
    try clear hcz9_3
    try clear hcz9_4
    try clear hcz9_5
    try clear hcz9_6
    try clear hcz9_7
    try clear hcz9_8
    try clear hfz11_0
    try clear hfz11_1
    try clear hfz11_2
    try clear hfz11_3
    try clear hfz11_4
    try clear hfz11_5
    try clear hfz11_6
    try clear hfz11_7
    try clear hfz11_8
    try clear hfz13_0
    try clear hfz13_1
    try clear hfz13_2
    try clear hfz13_3
    try clear hfz13_4
    try clear hfz13_5
    try clear hfz13_6
    try clear hfz13_7
    try clear hfz13_8
    try clear hfz15_0
    try clear hfz15_1
    try clear hfz15_2
    try clear hfz15_3
    try clear hfz15_4
    try clear hfz15_5
    try clear hfz15_6
    try clear hfz15_7
    try clear hfz15_8
    try clear hfz9_0
    try clear hfz9_1
    try clear hfz9_2
    try clear hfz9_3
    try clear hfz9_4
    try clear hfz9_5
    try clear hfz9_6
    try clear hfz9_7
    try clear hfz9_8
    obtain ⟨kq,x3_1,rfl,HA,HJ1,BK102,HB⟩:=hcut
    cases kq with
    | zero=>exact absurd HA.out (by simp [impl_NoteOk.j0])
    | succ kj1 =>
      have H:=HA.out
      clear HA
      simp only [impl_NoteOk.j0] at H
      by_cases c16:a0_0=1
      · rw [if_pos c16] at H
        have c16b0:(a0_0==1)=true:=beq_iff_eq.mpr c16
        have c16b1:(a0_0 != 1)=false:=bne_eq_false_iff_eq.mpr c16
        clear c16
        replace H:=Option.bind_eq_some_iff.mp H
        obtain ⟨t106,A170,H⟩:=H
        replace H:(if t106=true then ((impl_isTime.f a0_4).bind fun t107=>(if t107=true then (if a0_1=0 then ((impl_Addr_null.f a0_2 a0_3).bind fun t108=>(some t108)) else (some false)) else (some false))) else (some false))=some r:=H
        have A17:=Aside0.mk A170
        clear A170
        by_cases c18:t106=true
        · subst c18
          have H1:((impl_isTime.f a0_4).bind fun t107=>(if t107=true then (if a0_1=0 then ((impl_Addr_null.f a0_2 a0_3).bind fun t108=>(some t108)) else (some false)) else (some false)))=some r:=by rw [if_pos rfl] at H;exact H
          clear H
          have H:=H1
          clear H1
          replace H:=Option.bind_eq_some_iff.mp H
          obtain ⟨t107,A190,H⟩:=H
          replace H:(if t107=true then (if a0_1=0 then ((impl_Addr_null.f a0_2 a0_3).bind fun t108=>(some t108)) else (some false)) else (some false))=some r:=H
          have A19:=Aside0.mk A190
          clear A190
          by_cases c20:t107=true
          · subst c20
            have H1:(if a0_1=0 then ((impl_Addr_null.f a0_2 a0_3).bind fun t108=>(some t108)) else (some false))=some r:=by rw [if_pos rfl] at H;exact H
            clear H
            have H:=H1
            clear H1
            by_cases c21:a0_1=0
            · rw [if_pos c21] at H
              have c21b0:(a0_1==0)=true:=beq_iff_eq.mpr c21
              have c21b1:(a0_1 != 0)=false:=bne_eq_false_iff_eq.mpr c21
              clear c21
              replace H:=Option.bind_eq_some_iff.mp H
              obtain ⟨t108,A220,H⟩:=H
              replace H:(some t108)=some r:=H
              have A22:=Aside0.mk A220
              clear A220
              obtain rfl:=Option.some.inj H
              have hcz23_0:wc.cell? ⟨gb102,0,none⟩=some (.int .i64 a0_0):=(blk_cell BK102.out 0).trans rfl
              have hcz23_1:wc.cell? ⟨gb102,1,none⟩=some (.int .i64 a0_1):=(blk_cell BK102.out 1).trans rfl
              have hcz23_2:wc.cell? ⟨gb102,2,none⟩=some (.string a0_2):=(blk_cell BK102.out 2).trans rfl
              have hcz23_3:wc.cell? ⟨gb102,3,none⟩=some (.string a0_3):=(blk_cell BK102.out 3).trans rfl
              have hcz23_4:wc.cell? ⟨gb102,4,none⟩=some (.int .i64 a0_4):=(blk_cell BK102.out 4).trans rfl
              have hcz23_5:wc.cell? ⟨gb102,5,none⟩=some (.string a0_5):=(blk_cell BK102.out 5).trans rfl
              have hcz23_6:wc.cell? ⟨gb102,6,none⟩=some (.string a0_6):=(blk_cell BK102.out 6).trans rfl
              have hcz23_7:wc.cell? ⟨gb102,7,none⟩=some (.slice A0_7 l0_7.length c0_7):=(blk_cell BK102.out 7).trans rfl
              have hcz23_8:wc.cell? ⟨gb102,8,none⟩=some (.slice A0_8 l0_8.length c0_8):=(blk_cell BK102.out 8).trans rfl
              have hfz23_0:=blk_frozen BK102.out 0
              have hfz23_1:=blk_frozen BK102.out 1
              have hfz23_2:=blk_frozen BK102.out 2
              have hfz23_3:=blk_frozen BK102.out 3
              have hfz23_4:=blk_frozen BK102.out 4
              have hfz23_5:=blk_frozen BK102.out 5
              have hfz23_6:=blk_frozen BK102.out 6
              have hfz23_7:=blk_frozen BK102.out 7
              have hfz23_8:=blk_frozen BK102.out 8
              go_wp2_with (first|((with_reducible refine gate_callee (f:=30) rfl ?_);refine goesL_ (some 23) rfl rfl Tryz.func30 (by kernel_rfl) rfl #[.agg #[.string a0_5,.string a0_6,.slice A0_7 l0_7.length c0_7,.slice A0_8 l0_8.length c0_8]] rfl (by (try simp only [List.map_toArray,List.map_cons,List.map_nil]);first|done|rfl|(simp only [List.length_drop,List.length_take];rfl)) ?_;(with_reducible refine (impl_MailOk.calls kj1 a0_5 a0_6 _ _ l0_7 _ _ l0_8 true _ ?side1 ?side2 ?side3 ?side4 ?side5 A17.out).mono ?_);(case side1=>repeat (first|exact (Kd.C_below HR0_7.out HB.out)|(with_reducible refine Kd.C_alloc ?_ _)|(with_reducible refine Kd.C_drewN ?_ _)|(with_reducible refine Kd.C_drew ?_)));(case side2=>exact HC0_7.out);(case side3=>repeat (first|exact (Kd.C_below HR0_8.out HB.out)|(with_reducible refine Kd.C_alloc ?_ _)|(with_reducible refine Kd.C_drewN ?_ _)|(with_reducible refine Kd.C_drew ?_)));(case side4=>exact HC0_8.out);(case side5=>first|(with_reducible exact HG.out)|((with_reducible repeat (first|exact HG.out|apply GOK.drewN|apply GOK.drew));done)|exact GOK.below HG.out (by repeat (first|(with_reducible first|exact HB.out|apply below_alloc|apply pw_below_drewN|apply below_drew1|refine below_set ?_ GE102.out)|exact HB.out)));rintro e w24 ⟨rfl,hb⟩;refine ⟨_,rfl,?_⟩;have n0_:=Aside0.mk (blk_below (g:=gb102) (o:=.cells #[.int .i64 a0_0,.int .i64 a0_1,.string a0_2,.string a0_3,.int .i64 a0_4,.string a0_5,.string a0_6,.slice A0_7 l0_7.length c0_7,.slice A0_8 l0_8.length c0_8] 30 (0,0)) (by (with_reducible repeat (first|refine blk_drewN ?_ _|refine blk_drew ?_|refine blk_alloc ?_ _));exact BK102.out) hb);have n1_:=Aside0.mk (below_step (by repeat (first|(with_reducible first|exact HB.out|apply below_alloc|apply pw_below_drewN|apply below_drew1|refine below_set ?_ GE102.out)|exact HB.out)) hb);clear BK102;clear HB;have BK102:=n0_;have HB:=n1_;clear n0_ n1_;(try clear hb);(try clear hb2);(try clear hk);(try clear hi);have hcz25_0:w24.cell? ⟨gb102,0,none⟩=some (.int .i64 a0_0):=(blk_cell BK102.out 0).trans rfl;have hcz25_1:w24.cell? ⟨gb102,1,none⟩=some (.int .i64 a0_1):=(blk_cell BK102.out 1).trans rfl;have hcz25_2:w24.cell? ⟨gb102,2,none⟩=some (.string a0_2):=(blk_cell BK102.out 2).trans rfl;have hcz25_3:w24.cell? ⟨gb102,3,none⟩=some (.string a0_3):=(blk_cell BK102.out 3).trans rfl;have hcz25_4:w24.cell? ⟨gb102,4,none⟩=some (.int .i64 a0_4):=(blk_cell BK102.out 4).trans rfl;have hcz25_5:w24.cell? ⟨gb102,5,none⟩=some (.string a0_5):=(blk_cell BK102.out 5).trans rfl;have hcz25_6:w24.cell? ⟨gb102,6,none⟩=some (.string a0_6):=(blk_cell BK102.out 6).trans rfl;have hcz25_7:w24.cell? ⟨gb102,7,none⟩=some (.slice A0_7 l0_7.length c0_7):=(blk_cell BK102.out 7).trans rfl;have hcz25_8:w24.cell? ⟨gb102,8,none⟩=some (.slice A0_8 l0_8.length c0_8):=(blk_cell BK102.out 8).trans rfl;have hfz25_0:=blk_frozen BK102.out 0;have hfz25_1:=blk_frozen BK102.out 1;have hfz25_2:=blk_frozen BK102.out 2;have hfz25_3:=blk_frozen BK102.out 3;have hfz25_4:=blk_frozen BK102.out 4;have hfz25_5:=blk_frozen BK102.out 5;have hfz25_6:=blk_frozen BK102.out 6;have hfz25_7:=blk_frozen BK102.out 7;have hfz25_8:=blk_frozen BK102.out 8)|(go_at_call 31;(with_reducible refine (impl_isTime.calls a0_4 true _ A19.out).mono ?_);rintro e w' ⟨rfl,⟨nd,rfl⟩⟩)|(go_at_call 32;(with_reducible refine (impl_Addr_null.calls a0_2 a0_3 t108 _ A22.out).mono ?_);rintro e w26 ⟨rfl,hb⟩;have n0_:=Aside0.mk (blk_below (g:=gb102) (o:=.cells #[.int .i64 a0_0,.int .i64 a0_1,.string a0_2,.string a0_3,.int .i64 a0_4,.string a0_5,.string a0_6,.slice A0_7 l0_7.length c0_7,.slice A0_8 l0_8.length c0_8] 30 (0,0)) (by (with_reducible repeat (first|refine blk_drewN ?_ _|refine blk_drew ?_|refine blk_alloc ?_ _));exact BK102.out) hb);have n1_:=Aside0.mk (below_step (by repeat (first|(with_reducible first|exact HB.out|apply below_alloc|apply pw_below_drewN|apply below_drew1|refine below_set ?_ GE102.out)|exact HB.out)) hb);clear BK102;clear HB;have BK102:=n0_;have HB:=n1_;clear n0_ n1_;(try clear hb);(try clear hb2);(try clear hk);(try clear hi)))
              go_ret
              exact ⟨by first|rfl|(simp [errW_none,errW_some]<;>rfl)|(simp [*,errW_none,errW_some]<;>rfl),by repeat (first|(with_reducible first|exact HB.out|apply below_alloc|apply pw_below_drewN|apply below_drew1|refine below_set ?_ GE102.out)|exact HB.out)⟩
            · rw [if_neg c21] at H
              have c21b0:(a0_1==0)=false:=beq_eq_false_iff_ne.mpr c21
              have c21b1:(a0_1 != 0)=true:=bne_iff_ne.mpr c21
              obtain rfl:=Option.some.inj H
              have hcz27_0:wc.cell? ⟨gb102,0,none⟩=some (.int .i64 a0_0):=(blk_cell BK102.out 0).trans rfl
              have hcz27_1:wc.cell? ⟨gb102,1,none⟩=some (.int .i64 a0_1):=(blk_cell BK102.out 1).trans rfl
              have hcz27_2:wc.cell? ⟨gb102,2,none⟩=some (.string a0_2):=(blk_cell BK102.out 2).trans rfl
              have hcz27_3:wc.cell? ⟨gb102,3,none⟩=some (.string a0_3):=(blk_cell BK102.out 3).trans rfl
              have hcz27_4:wc.cell? ⟨gb102,4,none⟩=some (.int .i64 a0_4):=(blk_cell BK102.out 4).trans rfl
              have hcz27_5:wc.cell? ⟨gb102,5,none⟩=some (.string a0_5):=(blk_cell BK102.out 5).trans rfl
              have hcz27_6:wc.cell? ⟨gb102,6,none⟩=some (.string a0_6):=(blk_cell BK102.out 6).trans rfl
              have hcz27_7:wc.cell? ⟨gb102,7,none⟩=some (.slice A0_7 l0_7.length c0_7):=(blk_cell BK102.out 7).trans rfl
              have hcz27_8:wc.cell? ⟨gb102,8,none⟩=some (.slice A0_8 l0_8.length c0_8):=(blk_cell BK102.out 8).trans rfl
              have hfz27_0:=blk_frozen BK102.out 0
              have hfz27_1:=blk_frozen BK102.out 1
              have hfz27_2:=blk_frozen BK102.out 2
              have hfz27_3:=blk_frozen BK102.out 3
              have hfz27_4:=blk_frozen BK102.out 4
              have hfz27_5:=blk_frozen BK102.out 5
              have hfz27_6:=blk_frozen BK102.out 6
              have hfz27_7:=blk_frozen BK102.out 7
              have hfz27_8:=blk_frozen BK102.out 8
              go_wp2_with (first|((with_reducible refine gate_callee (f:=30) rfl ?_);refine goesL_ (some 23) rfl rfl Tryz.func30 (by kernel_rfl) rfl #[.agg #[.string a0_5,.string a0_6,.slice A0_7 l0_7.length c0_7,.slice A0_8 l0_8.length c0_8]] rfl (by (try simp only [List.map_toArray,List.map_cons,List.map_nil]);first|done|rfl|(simp only [List.length_drop,List.length_take];rfl)) ?_;(with_reducible refine (impl_MailOk.calls kj1 a0_5 a0_6 _ _ l0_7 _ _ l0_8 true _ ?side1 ?side2 ?side3 ?side4 ?side5 A17.out).mono ?_);(case side1=>repeat (first|exact (Kd.C_below HR0_7.out HB.out)|(with_reducible refine Kd.C_alloc ?_ _)|(with_reducible refine Kd.C_drewN ?_ _)|(with_reducible refine Kd.C_drew ?_)));(case side2=>exact HC0_7.out);(case side3=>repeat (first|exact (Kd.C_below HR0_8.out HB.out)|(with_reducible refine Kd.C_alloc ?_ _)|(with_reducible refine Kd.C_drewN ?_ _)|(with_reducible refine Kd.C_drew ?_)));(case side4=>exact HC0_8.out);(case side5=>first|(with_reducible exact HG.out)|((with_reducible repeat (first|exact HG.out|apply GOK.drewN|apply GOK.drew));done)|exact GOK.below HG.out (by repeat (first|(with_reducible first|exact HB.out|apply below_alloc|apply pw_below_drewN|apply below_drew1|refine below_set ?_ GE102.out)|exact HB.out)));rintro e w28 ⟨rfl,hb⟩;refine ⟨_,rfl,?_⟩;have n0_:=Aside0.mk (blk_below (g:=gb102) (o:=.cells #[.int .i64 a0_0,.int .i64 a0_1,.string a0_2,.string a0_3,.int .i64 a0_4,.string a0_5,.string a0_6,.slice A0_7 l0_7.length c0_7,.slice A0_8 l0_8.length c0_8] 30 (0,0)) (by (with_reducible repeat (first|refine blk_drewN ?_ _|refine blk_drew ?_|refine blk_alloc ?_ _));exact BK102.out) hb);have n1_:=Aside0.mk (below_step (by repeat (first|(with_reducible first|exact HB.out|apply below_alloc|apply pw_below_drewN|apply below_drew1|refine below_set ?_ GE102.out)|exact HB.out)) hb);clear BK102;clear HB;have BK102:=n0_;have HB:=n1_;clear n0_ n1_;(try clear hb);(try clear hb2);(try clear hk);(try clear hi);have hcz29_0:w28.cell? ⟨gb102,0,none⟩=some (.int .i64 a0_0):=(blk_cell BK102.out 0).trans rfl;have hcz29_1:w28.cell? ⟨gb102,1,none⟩=some (.int .i64 a0_1):=(blk_cell BK102.out 1).trans rfl;have hcz29_2:w28.cell? ⟨gb102,2,none⟩=some (.string a0_2):=(blk_cell BK102.out 2).trans rfl;have hcz29_3:w28.cell? ⟨gb102,3,none⟩=some (.string a0_3):=(blk_cell BK102.out 3).trans rfl;have hcz29_4:w28.cell? ⟨gb102,4,none⟩=some (.int .i64 a0_4):=(blk_cell BK102.out 4).trans rfl;have hcz29_5:w28.cell? ⟨gb102,5,none⟩=some (.string a0_5):=(blk_cell BK102.out 5).trans rfl;have hcz29_6:w28.cell? ⟨gb102,6,none⟩=some (.string a0_6):=(blk_cell BK102.out 6).trans rfl;have hcz29_7:w28.cell? ⟨gb102,7,none⟩=some (.slice A0_7 l0_7.length c0_7):=(blk_cell BK102.out 7).trans rfl;have hcz29_8:w28.cell? ⟨gb102,8,none⟩=some (.slice A0_8 l0_8.length c0_8):=(blk_cell BK102.out 8).trans rfl;have hfz29_0:=blk_frozen BK102.out 0;have hfz29_1:=blk_frozen BK102.out 1;have hfz29_2:=blk_frozen BK102.out 2;have hfz29_3:=blk_frozen BK102.out 3;have hfz29_4:=blk_frozen BK102.out 4;have hfz29_5:=blk_frozen BK102.out 5;have hfz29_6:=blk_frozen BK102.out 6;have hfz29_7:=blk_frozen BK102.out 7;have hfz29_8:=blk_frozen BK102.out 8)|(go_at_call 31;(with_reducible refine (impl_isTime.calls a0_4 true _ A19.out).mono ?_);rintro e w' ⟨rfl,⟨nd,rfl⟩⟩))
              go_ret
              exact ⟨by first|rfl|(simp [errW_none,errW_some]<;>rfl)|(simp [*,errW_none,errW_some]<;>rfl),by repeat (first|(with_reducible first|exact HB.out|apply below_alloc|apply pw_below_drewN|apply below_drew1|refine below_set ?_ GE102.out)|exact HB.out)⟩
          · replace c20:=Bool.eq_false_iff.mpr c20
            subst c20
            have H1:(some false)=some r:=by rw [if_neg (show ¬ (false=true) by decide)] at H;exact H
            clear H
            have H:=H1
            clear H1
            obtain rfl:=Option.some.inj H
            have hcz30_0:wc.cell? ⟨gb102,0,none⟩=some (.int .i64 a0_0):=(blk_cell BK102.out 0).trans rfl
            have hcz30_1:wc.cell? ⟨gb102,1,none⟩=some (.int .i64 a0_1):=(blk_cell BK102.out 1).trans rfl
            have hcz30_2:wc.cell? ⟨gb102,2,none⟩=some (.string a0_2):=(blk_cell BK102.out 2).trans rfl
            have hcz30_3:wc.cell? ⟨gb102,3,none⟩=some (.string a0_3):=(blk_cell BK102.out 3).trans rfl
            have hcz30_4:wc.cell? ⟨gb102,4,none⟩=some (.int .i64 a0_4):=(blk_cell BK102.out 4).trans rfl
            have hcz30_5:wc.cell? ⟨gb102,5,none⟩=some (.string a0_5):=(blk_cell BK102.out 5).trans rfl
            have hcz30_6:wc.cell? ⟨gb102,6,none⟩=some (.string a0_6):=(blk_cell BK102.out 6).trans rfl
            have hcz30_7:wc.cell? ⟨gb102,7,none⟩=some (.slice A0_7 l0_7.length c0_7):=(blk_cell BK102.out 7).trans rfl
            have hcz30_8:wc.cell? ⟨gb102,8,none⟩=some (.slice A0_8 l0_8.length c0_8):=(blk_cell BK102.out 8).trans rfl
            have hfz30_0:=blk_frozen BK102.out 0
            have hfz30_1:=blk_frozen BK102.out 1
            have hfz30_2:=blk_frozen BK102.out 2
            have hfz30_3:=blk_frozen BK102.out 3
            have hfz30_4:=blk_frozen BK102.out 4
            have hfz30_5:=blk_frozen BK102.out 5
            have hfz30_6:=blk_frozen BK102.out 6
            have hfz30_7:=blk_frozen BK102.out 7
            have hfz30_8:=blk_frozen BK102.out 8
            go_wp2_with (first|((with_reducible refine gate_callee (f:=30) rfl ?_);refine goesL_ (some 23) rfl rfl Tryz.func30 (by kernel_rfl) rfl #[.agg #[.string a0_5,.string a0_6,.slice A0_7 l0_7.length c0_7,.slice A0_8 l0_8.length c0_8]] rfl (by (try simp only [List.map_toArray,List.map_cons,List.map_nil]);first|done|rfl|(simp only [List.length_drop,List.length_take];rfl)) ?_;(with_reducible refine (impl_MailOk.calls kj1 a0_5 a0_6 _ _ l0_7 _ _ l0_8 true _ ?side1 ?side2 ?side3 ?side4 ?side5 A17.out).mono ?_);(case side1=>repeat (first|exact (Kd.C_below HR0_7.out HB.out)|(with_reducible refine Kd.C_alloc ?_ _)|(with_reducible refine Kd.C_drewN ?_ _)|(with_reducible refine Kd.C_drew ?_)));(case side2=>exact HC0_7.out);(case side3=>repeat (first|exact (Kd.C_below HR0_8.out HB.out)|(with_reducible refine Kd.C_alloc ?_ _)|(with_reducible refine Kd.C_drewN ?_ _)|(with_reducible refine Kd.C_drew ?_)));(case side4=>exact HC0_8.out);(case side5=>first|(with_reducible exact HG.out)|((with_reducible repeat (first|exact HG.out|apply GOK.drewN|apply GOK.drew));done)|exact GOK.below HG.out (by repeat (first|(with_reducible first|exact HB.out|apply below_alloc|apply pw_below_drewN|apply below_drew1|refine below_set ?_ GE102.out)|exact HB.out)));rintro e w31 ⟨rfl,hb⟩;refine ⟨_,rfl,?_⟩;have n0_:=Aside0.mk (blk_below (g:=gb102) (o:=.cells #[.int .i64 a0_0,.int .i64 a0_1,.string a0_2,.string a0_3,.int .i64 a0_4,.string a0_5,.string a0_6,.slice A0_7 l0_7.length c0_7,.slice A0_8 l0_8.length c0_8] 30 (0,0)) (by (with_reducible repeat (first|refine blk_drewN ?_ _|refine blk_drew ?_|refine blk_alloc ?_ _));exact BK102.out) hb);have n1_:=Aside0.mk (below_step (by repeat (first|(with_reducible first|exact HB.out|apply below_alloc|apply pw_below_drewN|apply below_drew1|refine below_set ?_ GE102.out)|exact HB.out)) hb);clear BK102;clear HB;have BK102:=n0_;have HB:=n1_;clear n0_ n1_;(try clear hb);(try clear hb2);(try clear hk);(try clear hi);have hcz32_0:w31.cell? ⟨gb102,0,none⟩=some (.int .i64 a0_0):=(blk_cell BK102.out 0).trans rfl;have hcz32_1:w31.cell? ⟨gb102,1,none⟩=some (.int .i64 a0_1):=(blk_cell BK102.out 1).trans rfl;have hcz32_2:w31.cell? ⟨gb102,2,none⟩=some (.string a0_2):=(blk_cell BK102.out 2).trans rfl;have hcz32_3:w31.cell? ⟨gb102,3,none⟩=some (.string a0_3):=(blk_cell BK102.out 3).trans rfl;have hcz32_4:w31.cell? ⟨gb102,4,none⟩=some (.int .i64 a0_4):=(blk_cell BK102.out 4).trans rfl;have hcz32_5:w31.cell? ⟨gb102,5,none⟩=some (.string a0_5):=(blk_cell BK102.out 5).trans rfl;have hcz32_6:w31.cell? ⟨gb102,6,none⟩=some (.string a0_6):=(blk_cell BK102.out 6).trans rfl;have hcz32_7:w31.cell? ⟨gb102,7,none⟩=some (.slice A0_7 l0_7.length c0_7):=(blk_cell BK102.out 7).trans rfl;have hcz32_8:w31.cell? ⟨gb102,8,none⟩=some (.slice A0_8 l0_8.length c0_8):=(blk_cell BK102.out 8).trans rfl;have hfz32_0:=blk_frozen BK102.out 0;have hfz32_1:=blk_frozen BK102.out 1;have hfz32_2:=blk_frozen BK102.out 2;have hfz32_3:=blk_frozen BK102.out 3;have hfz32_4:=blk_frozen BK102.out 4;have hfz32_5:=blk_frozen BK102.out 5;have hfz32_6:=blk_frozen BK102.out 6;have hfz32_7:=blk_frozen BK102.out 7;have hfz32_8:=blk_frozen BK102.out 8)|(go_at_call 31;(with_reducible refine (impl_isTime.calls a0_4 false _ A19.out).mono ?_);rintro e w' ⟨rfl,⟨nd,rfl⟩⟩))
            go_ret
            exact ⟨by first|rfl|(simp [errW_none,errW_some]<;>rfl)|(simp [*,errW_none,errW_some]<;>rfl),by repeat (first|(with_reducible first|exact HB.out|apply below_alloc|apply pw_below_drewN|apply below_drew1|refine below_set ?_ GE102.out)|exact HB.out)⟩
        · replace c18:=Bool.eq_false_iff.mpr c18
          subst c18
          have H1:(some false)=some r:=by rw [if_neg (show ¬ (false=true) by decide)] at H;exact H
          clear H
          have H:=H1
          clear H1
          obtain rfl:=Option.some.inj H
          have hcz33_0:wc.cell? ⟨gb102,0,none⟩=some (.int .i64 a0_0):=(blk_cell BK102.out 0).trans rfl
          have hcz33_1:wc.cell? ⟨gb102,1,none⟩=some (.int .i64 a0_1):=(blk_cell BK102.out 1).trans rfl
          have hcz33_2:wc.cell? ⟨gb102,2,none⟩=some (.string a0_2):=(blk_cell BK102.out 2).trans rfl
          have hcz33_3:wc.cell? ⟨gb102,3,none⟩=some (.string a0_3):=(blk_cell BK102.out 3).trans rfl
          have hcz33_4:wc.cell? ⟨gb102,4,none⟩=some (.int .i64 a0_4):=(blk_cell BK102.out 4).trans rfl
          have hcz33_5:wc.cell? ⟨gb102,5,none⟩=some (.string a0_5):=(blk_cell BK102.out 5).trans rfl
          have hcz33_6:wc.cell? ⟨gb102,6,none⟩=some (.string a0_6):=(blk_cell BK102.out 6).trans rfl
          have hcz33_7:wc.cell? ⟨gb102,7,none⟩=some (.slice A0_7 l0_7.length c0_7):=(blk_cell BK102.out 7).trans rfl
          have hcz33_8:wc.cell? ⟨gb102,8,none⟩=some (.slice A0_8 l0_8.length c0_8):=(blk_cell BK102.out 8).trans rfl
          have hfz33_0:=blk_frozen BK102.out 0
          have hfz33_1:=blk_frozen BK102.out 1
          have hfz33_2:=blk_frozen BK102.out 2
          have hfz33_3:=blk_frozen BK102.out 3
          have hfz33_4:=blk_frozen BK102.out 4
          have hfz33_5:=blk_frozen BK102.out 5
          have hfz33_6:=blk_frozen BK102.out 6
          have hfz33_7:=blk_frozen BK102.out 7
          have hfz33_8:=blk_frozen BK102.out 8
          go_wp2_with (first|((with_reducible refine gate_callee (f:=30) rfl ?_);refine goesL_ (some 23) rfl rfl Tryz.func30 (by kernel_rfl) rfl #[.agg #[.string a0_5,.string a0_6,.slice A0_7 l0_7.length c0_7,.slice A0_8 l0_8.length c0_8]] rfl (by (try simp only [List.map_toArray,List.map_cons,List.map_nil]);first|done|rfl|(simp only [List.length_drop,List.length_take];rfl)) ?_;(with_reducible refine (impl_MailOk.calls kj1 a0_5 a0_6 _ _ l0_7 _ _ l0_8 false _ ?side1 ?side2 ?side3 ?side4 ?side5 A17.out).mono ?_);(case side1=>repeat (first|exact (Kd.C_below HR0_7.out HB.out)|(with_reducible refine Kd.C_alloc ?_ _)|(with_reducible refine Kd.C_drewN ?_ _)|(with_reducible refine Kd.C_drew ?_)));(case side2=>exact HC0_7.out);(case side3=>repeat (first|exact (Kd.C_below HR0_8.out HB.out)|(with_reducible refine Kd.C_alloc ?_ _)|(with_reducible refine Kd.C_drewN ?_ _)|(with_reducible refine Kd.C_drew ?_)));(case side4=>exact HC0_8.out);(case side5=>first|(with_reducible exact HG.out)|((with_reducible repeat (first|exact HG.out|apply GOK.drewN|apply GOK.drew));done)|exact GOK.below HG.out (by repeat (first|(with_reducible first|exact HB.out|apply below_alloc|apply pw_below_drewN|apply below_drew1|refine below_set ?_ GE102.out)|exact HB.out)));rintro e w34 ⟨rfl,hb⟩;refine ⟨_,rfl,?_⟩;have n0_:=Aside0.mk (blk_below (g:=gb102) (o:=.cells #[.int .i64 a0_0,.int .i64 a0_1,.string a0_2,.string a0_3,.int .i64 a0_4,.string a0_5,.string a0_6,.slice A0_7 l0_7.length c0_7,.slice A0_8 l0_8.length c0_8] 30 (0,0)) (by (with_reducible repeat (first|refine blk_drewN ?_ _|refine blk_drew ?_|refine blk_alloc ?_ _));exact BK102.out) hb);have n1_:=Aside0.mk (below_step (by repeat (first|(with_reducible first|exact HB.out|apply below_alloc|apply pw_below_drewN|apply below_drew1|refine below_set ?_ GE102.out)|exact HB.out)) hb);clear BK102;clear HB;have BK102:=n0_;have HB:=n1_;clear n0_ n1_;(try clear hb);(try clear hb2);(try clear hk);(try clear hi)))
          go_ret
          exact ⟨by first|rfl|(simp [errW_none,errW_some]<;>rfl)|(simp [*,errW_none,errW_some]<;>rfl),by repeat (first|(with_reducible first|exact HB.out|apply below_alloc|apply pw_below_drewN|apply below_drew1|refine below_set ?_ GE102.out)|exact HB.out)⟩
      · rw [if_neg c16] at H
        have c16b0:(a0_0==1)=false:=beq_eq_false_iff_ne.mpr c16
        have c16b1:(a0_0 != 1)=true:=bne_iff_ne.mpr c16
        by_cases c35:a0_0=2
        · rw [if_pos c35] at H
          have c35b0:(a0_0==2)=true:=beq_iff_eq.mpr c35
          have c35b1:(a0_0 != 2)=false:=bne_eq_false_iff_eq.mpr c35
          clear c35
          by_cases c36:x3_1=true
          · subst c36
            have H1:(some (a0_4==0))=some r:=by rw [if_pos rfl] at H;exact H
            clear H
            have H:=H1
            clear H1
            obtain rfl:=Option.some.inj H
            have hcz37_0:wc.cell? ⟨gb102,0,none⟩=some (.int .i64 a0_0):=(blk_cell BK102.out 0).trans rfl
            have hcz37_1:wc.cell? ⟨gb102,1,none⟩=some (.int .i64 a0_1):=(blk_cell BK102.out 1).trans rfl
            have hcz37_2:wc.cell? ⟨gb102,2,none⟩=some (.string a0_2):=(blk_cell BK102.out 2).trans rfl
            have hcz37_3:wc.cell? ⟨gb102,3,none⟩=some (.string a0_3):=(blk_cell BK102.out 3).trans rfl
            have hcz37_4:wc.cell? ⟨gb102,4,none⟩=some (.int .i64 a0_4):=(blk_cell BK102.out 4).trans rfl
            have hcz37_5:wc.cell? ⟨gb102,5,none⟩=some (.string a0_5):=(blk_cell BK102.out 5).trans rfl
            have hcz37_6:wc.cell? ⟨gb102,6,none⟩=some (.string a0_6):=(blk_cell BK102.out 6).trans rfl
            have hcz37_7:wc.cell? ⟨gb102,7,none⟩=some (.slice A0_7 l0_7.length c0_7):=(blk_cell BK102.out 7).trans rfl
            have hcz37_8:wc.cell? ⟨gb102,8,none⟩=some (.slice A0_8 l0_8.length c0_8):=(blk_cell BK102.out 8).trans rfl
            have hfz37_0:=blk_frozen BK102.out 0
            have hfz37_1:=blk_frozen BK102.out 1
            have hfz37_2:=blk_frozen BK102.out 2
            have hfz37_3:=blk_frozen BK102.out 3
            have hfz37_4:=blk_frozen BK102.out 4
            have hfz37_5:=blk_frozen BK102.out 5
            have hfz37_6:=blk_frozen BK102.out 6
            have hfz37_7:=blk_frozen BK102.out 7
            have hfz37_8:=blk_frozen BK102.out 8
            go_wp2
            go_ret
            exact ⟨by first|rfl|(simp [errW_none,errW_some]<;>rfl)|(simp [*,errW_none,errW_some]<;>rfl),by repeat (first|(with_reducible first|exact HB.out|apply below_alloc|apply pw_below_drewN|apply below_drew1|refine below_set ?_ GE102.out)|exact HB.out)⟩
          · replace c36:=Bool.eq_false_iff.mpr c36
            subst c36
            have H1:(some false)=some r:=by rw [if_neg (show ¬ (false=true) by decide)] at H;exact H
            clear H
            have H:=H1
            clear H1
            obtain rfl:=Option.some.inj H
            have hcz38_0:wc.cell? ⟨gb102,0,none⟩=some (.int .i64 a0_0):=(blk_cell BK102.out 0).trans rfl
            have hcz38_1:wc.cell? ⟨gb102,1,none⟩=some (.int .i64 a0_1):=(blk_cell BK102.out 1).trans rfl
            have hcz38_2:wc.cell? ⟨gb102,2,none⟩=some (.string a0_2):=(blk_cell BK102.out 2).trans rfl
            have hcz38_3:wc.cell? ⟨gb102,3,none⟩=some (.string a0_3):=(blk_cell BK102.out 3).trans rfl
            have hcz38_4:wc.cell? ⟨gb102,4,none⟩=some (.int .i64 a0_4):=(blk_cell BK102.out 4).trans rfl
            have hcz38_5:wc.cell? ⟨gb102,5,none⟩=some (.string a0_5):=(blk_cell BK102.out 5).trans rfl
            have hcz38_6:wc.cell? ⟨gb102,6,none⟩=some (.string a0_6):=(blk_cell BK102.out 6).trans rfl
            have hcz38_7:wc.cell? ⟨gb102,7,none⟩=some (.slice A0_7 l0_7.length c0_7):=(blk_cell BK102.out 7).trans rfl
            have hcz38_8:wc.cell? ⟨gb102,8,none⟩=some (.slice A0_8 l0_8.length c0_8):=(blk_cell BK102.out 8).trans rfl
            have hfz38_0:=blk_frozen BK102.out 0
            have hfz38_1:=blk_frozen BK102.out 1
            have hfz38_2:=blk_frozen BK102.out 2
            have hfz38_3:=blk_frozen BK102.out 3
            have hfz38_4:=blk_frozen BK102.out 4
            have hfz38_5:=blk_frozen BK102.out 5
            have hfz38_6:=blk_frozen BK102.out 6
            have hfz38_7:=blk_frozen BK102.out 7
            have hfz38_8:=blk_frozen BK102.out 8
            go_wp2
            go_ret
            exact ⟨by first|rfl|(simp [errW_none,errW_some]<;>rfl)|(simp [*,errW_none,errW_some]<;>rfl),by repeat (first|(with_reducible first|exact HB.out|apply below_alloc|apply pw_below_drewN|apply below_drew1|refine below_set ?_ GE102.out)|exact HB.out)⟩
        · rw [if_neg c35] at H
          have c35b0:(a0_0==2)=false:=beq_eq_false_iff_ne.mpr c35
          have c35b1:(a0_0 != 2)=true:=bne_iff_ne.mpr c35
          by_cases c39:a0_0=3
          · rw [if_pos c39] at H
            have c39b0:(a0_0==3)=true:=beq_iff_eq.mpr c39
            have c39b1:(a0_0 != 3)=false:=bne_eq_false_iff_eq.mpr c39
            clear c39
            by_cases c40:x3_1=true
            · subst c40
              have H1:((impl_isTime.f a0_4).bind fun t109=>(some t109))=some r:=by rw [if_pos rfl] at H;exact H
              clear H
              have H:=H1
              clear H1
              replace H:=Option.bind_eq_some_iff.mp H
              obtain ⟨t109,A410,H⟩:=H
              replace H:(some t109)=some r:=H
              have A41:=Aside0.mk A410
              clear A410
              obtain rfl:=Option.some.inj H
              have hcz42_0:wc.cell? ⟨gb102,0,none⟩=some (.int .i64 a0_0):=(blk_cell BK102.out 0).trans rfl
              have hcz42_1:wc.cell? ⟨gb102,1,none⟩=some (.int .i64 a0_1):=(blk_cell BK102.out 1).trans rfl
              have hcz42_2:wc.cell? ⟨gb102,2,none⟩=some (.string a0_2):=(blk_cell BK102.out 2).trans rfl
              have hcz42_3:wc.cell? ⟨gb102,3,none⟩=some (.string a0_3):=(blk_cell BK102.out 3).trans rfl
              have hcz42_4:wc.cell? ⟨gb102,4,none⟩=some (.int .i64 a0_4):=(blk_cell BK102.out 4).trans rfl
              have hcz42_5:wc.cell? ⟨gb102,5,none⟩=some (.string a0_5):=(blk_cell BK102.out 5).trans rfl
              have hcz42_6:wc.cell? ⟨gb102,6,none⟩=some (.string a0_6):=(blk_cell BK102.out 6).trans rfl
              have hcz42_7:wc.cell? ⟨gb102,7,none⟩=some (.slice A0_7 l0_7.length c0_7):=(blk_cell BK102.out 7).trans rfl
              have hcz42_8:wc.cell? ⟨gb102,8,none⟩=some (.slice A0_8 l0_8.length c0_8):=(blk_cell BK102.out 8).trans rfl
              have hfz42_0:=blk_frozen BK102.out 0
              have hfz42_1:=blk_frozen BK102.out 1
              have hfz42_2:=blk_frozen BK102.out 2
              have hfz42_3:=blk_frozen BK102.out 3
              have hfz42_4:=blk_frozen BK102.out 4
              have hfz42_5:=blk_frozen BK102.out 5
              have hfz42_6:=blk_frozen BK102.out 6
              have hfz42_7:=blk_frozen BK102.out 7
              have hfz42_8:=blk_frozen BK102.out 8
              go_wp2_with (first|(go_at_call 31;(with_reducible refine (impl_isTime.calls a0_4 t109 _ A41.out).mono ?_);rintro e w' ⟨rfl,⟨nd,rfl⟩⟩))
              go_ret
              exact ⟨by first|rfl|(simp [errW_none,errW_some]<;>rfl)|(simp [*,errW_none,errW_some]<;>rfl),by repeat (first|(with_reducible first|exact HB.out|apply below_alloc|apply pw_below_drewN|apply below_drew1|refine below_set ?_ GE102.out)|exact HB.out)⟩
            · replace c40:=Bool.eq_false_iff.mpr c40
              subst c40
              have H1:(some false)=some r:=by rw [if_neg (show ¬ (false=true) by decide)] at H;exact H
              clear H
              have H:=H1
              clear H1
              obtain rfl:=Option.some.inj H
              have hcz43_0:wc.cell? ⟨gb102,0,none⟩=some (.int .i64 a0_0):=(blk_cell BK102.out 0).trans rfl
              have hcz43_1:wc.cell? ⟨gb102,1,none⟩=some (.int .i64 a0_1):=(blk_cell BK102.out 1).trans rfl
              have hcz43_2:wc.cell? ⟨gb102,2,none⟩=some (.string a0_2):=(blk_cell BK102.out 2).trans rfl
              have hcz43_3:wc.cell? ⟨gb102,3,none⟩=some (.string a0_3):=(blk_cell BK102.out 3).trans rfl
              have hcz43_4:wc.cell? ⟨gb102,4,none⟩=some (.int .i64 a0_4):=(blk_cell BK102.out 4).trans rfl
              have hcz43_5:wc.cell? ⟨gb102,5,none⟩=some (.string a0_5):=(blk_cell BK102.out 5).trans rfl
              have hcz43_6:wc.cell? ⟨gb102,6,none⟩=some (.string a0_6):=(blk_cell BK102.out 6).trans rfl
              have hcz43_7:wc.cell? ⟨gb102,7,none⟩=some (.slice A0_7 l0_7.length c0_7):=(blk_cell BK102.out 7).trans rfl
              have hcz43_8:wc.cell? ⟨gb102,8,none⟩=some (.slice A0_8 l0_8.length c0_8):=(blk_cell BK102.out 8).trans rfl
              have hfz43_0:=blk_frozen BK102.out 0
              have hfz43_1:=blk_frozen BK102.out 1
              have hfz43_2:=blk_frozen BK102.out 2
              have hfz43_3:=blk_frozen BK102.out 3
              have hfz43_4:=blk_frozen BK102.out 4
              have hfz43_5:=blk_frozen BK102.out 5
              have hfz43_6:=blk_frozen BK102.out 6
              have hfz43_7:=blk_frozen BK102.out 7
              have hfz43_8:=blk_frozen BK102.out 8
              go_wp2
              go_ret
              exact ⟨by first|rfl|(simp [errW_none,errW_some]<;>rfl)|(simp [*,errW_none,errW_some]<;>rfl),by repeat (first|(with_reducible first|exact HB.out|apply below_alloc|apply pw_below_drewN|apply below_drew1|refine below_set ?_ GE102.out)|exact HB.out)⟩
          · rw [if_neg c39] at H
            have c39b0:(a0_0==3)=false:=beq_eq_false_iff_ne.mpr c39
            have c39b1:(a0_0 != 3)=true:=bne_iff_ne.mpr c39
            obtain rfl:=Option.some.inj H
            have hcz44_0:wc.cell? ⟨gb102,0,none⟩=some (.int .i64 a0_0):=(blk_cell BK102.out 0).trans rfl
            have hcz44_1:wc.cell? ⟨gb102,1,none⟩=some (.int .i64 a0_1):=(blk_cell BK102.out 1).trans rfl
            have hcz44_2:wc.cell? ⟨gb102,2,none⟩=some (.string a0_2):=(blk_cell BK102.out 2).trans rfl
            have hcz44_3:wc.cell? ⟨gb102,3,none⟩=some (.string a0_3):=(blk_cell BK102.out 3).trans rfl
            have hcz44_4:wc.cell? ⟨gb102,4,none⟩=some (.int .i64 a0_4):=(blk_cell BK102.out 4).trans rfl
            have hcz44_5:wc.cell? ⟨gb102,5,none⟩=some (.string a0_5):=(blk_cell BK102.out 5).trans rfl
            have hcz44_6:wc.cell? ⟨gb102,6,none⟩=some (.string a0_6):=(blk_cell BK102.out 6).trans rfl
            have hcz44_7:wc.cell? ⟨gb102,7,none⟩=some (.slice A0_7 l0_7.length c0_7):=(blk_cell BK102.out 7).trans rfl
            have hcz44_8:wc.cell? ⟨gb102,8,none⟩=some (.slice A0_8 l0_8.length c0_8):=(blk_cell BK102.out 8).trans rfl
            have hfz44_0:=blk_frozen BK102.out 0
            have hfz44_1:=blk_frozen BK102.out 1
            have hfz44_2:=blk_frozen BK102.out 2
            have hfz44_3:=blk_frozen BK102.out 3
            have hfz44_4:=blk_frozen BK102.out 4
            have hfz44_5:=blk_frozen BK102.out 5
            have hfz44_6:=blk_frozen BK102.out 6
            have hfz44_7:=blk_frozen BK102.out 7
            have hfz44_8:=blk_frozen BK102.out 8
            go_wp2
            go_ret
            exact ⟨by first|rfl|(simp [errW_none,errW_some]<;>rfl)|(simp [*,errW_none,errW_some]<;>rfl),by repeat (first|(with_reducible first|exact HB.out|apply below_alloc|apply pw_below_drewN|apply below_drew1|refine below_set ?_ GE102.out)|exact HB.out)⟩
end Go.Proofs.YtjdpdkdhfnpcgaaGreatDoor.Q
