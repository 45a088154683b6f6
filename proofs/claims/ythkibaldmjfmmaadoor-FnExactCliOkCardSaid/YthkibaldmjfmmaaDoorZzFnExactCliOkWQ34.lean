/- Of a text of ours what this claim needs. -/
import Derived.Test.YthkibaldmjfmmaaDoorZzFnExactCliOkWQ0
import Derived.Test.YthkibaldmjfmmaaDoorZzFnExactCliOkWQ8
import Derived.Test.YthkibaldmjfmmaaDoorZzFnExactCliOkWQ10
import Derived.Test.YthkibaldmjfmmaaDoorZzFnExactCliOkWQ33
import Derived.Test.YthkibaldmjfmmaaDoorZzFnExactCliOkWHSplit
namespace Go.Proofs.YthkibaldmjfmmaaDoor.Q
open Go.RowKit Go.Proofs.YthkibaldmjfmmaaDoorW.PrintWords Go.Proofs.YthkibaldmjfmmaaDoorW.PrintLast Go.Proofs.YthkibaldmjfmmaaDoorW.PrintMore
attribute [local go_sem] max2_int min2_int max_two min_two max_three min_three max_four min_four
set_option linter.unusedVariables false
set_option linter.unusedSimpArgs false
def impl_CliOk.j0:Nat→Bool→ByteArray→ByteArray→ByteArray→List (S30)→List ByteArray→Int→Int→List Int→Option (Bool)
  | 0,_,_,_,_,_,_,_,_,_=>none
  | k+1,x19,x270000,x270001,x270002,x270003,x270004,x270005,x270006,x270007=>if x19=true then (some false) else ((impl_within.f x270006 0 (x270003.length:Int)).bind fun t273=>(if t273=true then (if x270005=3 then (if x270006 > 0 then (if (x270007.length:Int)=(x270003.length:Int) then ((slices_ContainsFunc_int_int_at76.f k x270007).bind fun t274=>(some (!t274))) else (some false)) else (some false)) else (if (x270007.length:Int)=(x270003.length:Int) then ((slices_ContainsFunc_int_int_at76.f k x270007).bind fun t275=>(some (!t275))) else (some false))) else (some false)))
def impl_CliOk.f (k:Nat) (a0_0:ByteArray) (a0_1:ByteArray) (a0_2:ByteArray) (l0_3:List (S30)) (l0_4:List ByteArray) (a0_5:Int) (a0_6:Int) (l0_7:List Int):Option (Bool):=(impl_DomainOk.f k a0_0).bind fun t270=>(if t270=true then ((impl_MailOk.f k a0_1 a0_2 l0_3 l0_4).bind fun t271=>(if t271=true then ((impl_within.f a0_5 0 7).bind fun t272=>(impl_CliOk.j0 k (!t272) a0_0 a0_1 a0_2 l0_3 l0_4 a0_5 a0_6 l0_7)) else (impl_CliOk.j0 k true a0_0 a0_1 a0_2 l0_3 l0_4 a0_5 a0_6 l0_7))) else (impl_CliOk.j0 k true a0_0 a0_1 a0_2 l0_3 l0_4 a0_5 a0_6 l0_7))
set_option maxHeartbeats 8000000 in
set_option maxRecDepth 100000 in
theorem impl_CliOk.calls (k:Nat) (a0_0:ByteArray) (a0_1:ByteArray) (a0_2:ByteArray) (A0_3:Option Addr) (c0_3:Nat) (l0_3:List (S30)) (A0_4:Option Addr) (c0_4:Nat) (l0_4:List ByteArray) (a0_5:Int) (a0_6:Int) (A0_7:Option Addr) (c0_7:Nat) (l0_7:List Int) (r:Bool) (w:World) (hr0_3:Kd.C k30 w A0_3 l0_3.length l0_3) (hc0_3:l0_3.length≤c0_3) (hr0_4:Kd.C Kd.string w A0_4 l0_4.length l0_4) (hc0_4:l0_4.length≤c0_4) (hr0_7:Kd.C (Kd.int .i64) w A0_7 l0_7.length l0_7) (hc0_7:l0_7.length≤c0_7) (hG:GOK w) (h:impl_CliOk.f k a0_0 a0_1 a0_2 l0_3 l0_4 a0_5 a0_6 l0_7=some r) :
    Calls Tryd.prog 32 #[.agg #[.string a0_0,.string a0_1,.string a0_2,.slice A0_3 l0_3.length c0_3,.slice A0_4 l0_4.length c0_4,.int .i64 a0_5,.int .i64 a0_6,.slice A0_7 l0_7.length c0_7]] w fun e w'=>e=.returned (.bool r)∧Below w.heap.size w w':=by
  have hu67:=Tryd.underlying67
  have hu33:=Tryd.underlying33
  have HR0_3:=Aside0.mk hr0_3
  have HC0_3:=Aside0.mk hc0_3
  clear hr0_3 hc0_3
  have HR0_4:=Aside0.mk hr0_4
  have HC0_4:=Aside0.mk hc0_4
  clear hr0_4 hc0_4
  have HR0_7:=Aside0.mk hr0_7
  have HC0_7:=Aside0.mk hc0_7
  clear hr0_7 hc0_7
  have HG:=Aside0.mk hG
  clear hG
  have HB:=Aside0.mk (Below.refl w.heap.size w)
  have H:((impl_DomainOk.f k a0_0).bind fun t270=>(if t270=true then ((impl_MailOk.f k a0_1 a0_2 l0_3 l0_4).bind fun t271=>(if t271=true then ((impl_within.f a0_5 0 7).bind fun t272=>(impl_CliOk.j0 k (!t272) a0_0 a0_1 a0_2 l0_3 l0_4 a0_5 a0_6 l0_7)) else (impl_CliOk.j0 k true a0_0 a0_1 a0_2 l0_3 l0_4 a0_5 a0_6 l0_7))) else (impl_CliOk.j0 k true a0_0 a0_1 a0_2 l0_3 l0_4 a0_5 a0_6 l0_7)))=some r:=h
  clear h
  have HC2:=Aside0.mk H
  clear H
  go_enter Tryd.func32,Tryd.ntmps32
  go_upto_region 2 with (first|((with_reducible refine gate_dst (N:=1) rfl ?_);(try (refine gate_guard (by rfl) ?_;dsimp only));refine box_event ?hg (N:=1) ?hd (cs:=#[.string a0_0,.string a0_1,.string a0_2,.slice A0_3 l0_3.length c0_3,.slice A0_4 l0_4.length c0_4,.int .i64 a0_5,.int .i64 a0_6,.slice A0_7 l0_7.length c0_7]) (t:=67) ?hr ?_;(case hd=>rfl);(case hg=>rfl);(case hr=>first|(go_simp;done)|(go_simp;rfl));intro gb269 hg w3 hbox hb;have n0_:=Aside0.mk (below_step (by repeat (first|(with_reducible first|exact HB.out|apply below_alloc|apply pw_below_drewN|apply below_drew1)|exact HB.out)) hb);have n1_:=Aside0.mk (hbox);have n2_:=Aside0.mk ((by rw [hg];exact (below_size (by repeat (first|(with_reducible first|exact HB.out|apply below_alloc|apply pw_below_drewN|apply below_drew1)|exact HB.out))):w.heap.size≤gb269));have n3_:=Aside0.mk ((by rw [hg];exact (below_size (by repeat (first|(with_reducible first|exact HB.out|apply below_alloc|apply pw_below_drewN|apply below_drew1)|exact HB.out))):w.heap.size≤gb269));clear HB;have HB:=n0_;have BK269:=n1_;have GW269:=n2_;have GE269:=n3_;clear n0_ n1_ n2_ n3_;clear hb hbox hg))
  (try simp only [Act.put,List.setIfInBounds_toArray,List.set_cons_zero,List.set_cons_succ])
  go_cut [19] (fun v19 wc=>∃ (kq:Nat) (x19_1:Bool),v19=.bool x19_1∧Aside0 (impl_CliOk.j0 kq x19_1 a0_0 a0_1 a0_2 l0_3 l0_4 a0_5 a0_6 l0_7=some r)∧Aside0 (kq≤k)∧Aside0 (wc.heap[gb269]?=some (.cells #[.string a0_0,.string a0_1,.string a0_2,(.slice A0_3 l0_3.length c0_3),(.slice A0_4 l0_4.length c0_4),.int .i64 a0_5,.int .i64 a0_6,(.slice A0_7 l0_7.length c0_7)] 67 (0,0)))∧Aside0 (Below w.heap.size w wc))
  case first =>
    have H:=HC2.out
    clear HC2
    replace H:=Option.bind_eq_some_iff.mp H
    obtain ⟨t270,A40,H⟩:=H
    replace H:(if t270=true then ((impl_MailOk.f k a0_1 a0_2 l0_3 l0_4).bind fun t271=>(if t271=true then ((impl_within.f a0_5 0 7).bind fun t272=>(impl_CliOk.j0 k (!t272) a0_0 a0_1 a0_2 l0_3 l0_4 a0_5 a0_6 l0_7)) else (impl_CliOk.j0 k true a0_0 a0_1 a0_2 l0_3 l0_4 a0_5 a0_6 l0_7))) else (impl_CliOk.j0 k true a0_0 a0_1 a0_2 l0_3 l0_4 a0_5 a0_6 l0_7))=some r:=H
    have A4:=Aside0.mk A40
    clear A40
    by_cases c5:t270=true
    · subst c5
      have H1:((impl_MailOk.f k a0_1 a0_2 l0_3 l0_4).bind fun t271=>(if t271=true then ((impl_within.f a0_5 0 7).bind fun t272=>(impl_CliOk.j0 k (!t272) a0_0 a0_1 a0_2 l0_3 l0_4 a0_5 a0_6 l0_7)) else (impl_CliOk.j0 k true a0_0 a0_1 a0_2 l0_3 l0_4 a0_5 a0_6 l0_7)))=some r:=by rw [if_pos rfl] at H;exact H
      clear H
      have H:=H1
      clear H1
      replace H:=Option.bind_eq_some_iff.mp H
      obtain ⟨t271,A60,H⟩:=H
      replace H:(if t271=true then ((impl_within.f a0_5 0 7).bind fun t272=>(impl_CliOk.j0 k (!t272) a0_0 a0_1 a0_2 l0_3 l0_4 a0_5 a0_6 l0_7)) else (impl_CliOk.j0 k true a0_0 a0_1 a0_2 l0_3 l0_4 a0_5 a0_6 l0_7))=some r:=H
      have A6:=Aside0.mk A60
      clear A60
      by_cases c7:t271=true
      · subst c7
        have H1:((impl_within.f a0_5 0 7).bind fun t272=>(impl_CliOk.j0 k (!t272) a0_0 a0_1 a0_2 l0_3 l0_4 a0_5 a0_6 l0_7))=some r:=by rw [if_pos rfl] at H;exact H
        clear H
        have H:=H1
        clear H1
        replace H:=Option.bind_eq_some_iff.mp H
        obtain ⟨t272,A80,H⟩:=H
        replace H:(impl_CliOk.j0 k (!t272) a0_0 a0_1 a0_2 l0_3 l0_4 a0_5 a0_6 l0_7)=some r:=H
        have A8:=Aside0.mk A80
        clear A80
        have H':=Aside0.mk H
        clear H
        have hcz9_0:w3.cell? ⟨gb269,0,none⟩=some (.string a0_0):=(blk_cell BK269.out 0).trans rfl
        have hcz9_1:w3.cell? ⟨gb269,1,none⟩=some (.string a0_1):=(blk_cell BK269.out 1).trans rfl
        have hcz9_2:w3.cell? ⟨gb269,2,none⟩=some (.string a0_2):=(blk_cell BK269.out 2).trans rfl
        have hcz9_3:w3.cell? ⟨gb269,3,none⟩=some (.slice A0_3 l0_3.length c0_3):=(blk_cell BK269.out 3).trans rfl
        have hcz9_4:w3.cell? ⟨gb269,4,none⟩=some (.slice A0_4 l0_4.length c0_4):=(blk_cell BK269.out 4).trans rfl
        have hcz9_5:w3.cell? ⟨gb269,5,none⟩=some (.int .i64 a0_5):=(blk_cell BK269.out 5).trans rfl
        have hcz9_6:w3.cell? ⟨gb269,6,none⟩=some (.int .i64 a0_6):=(blk_cell BK269.out 6).trans rfl
        have hcz9_7:w3.cell? ⟨gb269,7,none⟩=some (.slice A0_7 l0_7.length c0_7):=(blk_cell BK269.out 7).trans rfl
        have hfz9_0:=blk_frozen BK269.out 0
        have hfz9_1:=blk_frozen BK269.out 1
        have hfz9_2:=blk_frozen BK269.out 2
        have hfz9_3:=blk_frozen BK269.out 3
        have hfz9_4:=blk_frozen BK269.out 4
        have hfz9_5:=blk_frozen BK269.out 5
        have hfz9_6:=blk_frozen BK269.out 6
        have hfz9_7:=blk_frozen BK269.out 7
        go_wp2_with (first|((with_reducible refine gate_callee (f:=63) rfl ?_);refine goesL_ (some 6) rfl rfl Tryd.func63 (by kernel_rfl) rfl #[.string a0_0] rfl (by (try simp only [List.map_toArray,List.map_cons,List.map_nil]);first|done|rfl|(simp only [List.length_drop,List.length_take];rfl)) ?_;(with_reducible refine (impl_DomainOk.calls k a0_0 true _ ?side1 A4.out).mono ?_);(case side1=>first|(with_reducible exact HG.out)|((with_reducible repeat (first|exact HG.out|apply GOK.drewN|apply GOK.drew));done)|exact GOK.below HG.out (by repeat (first|(with_reducible first|exact HB.out|apply below_alloc|apply pw_below_drewN|apply below_drew1|refine below_set ?_ GE269.out)|exact HB.out)));rintro e w10 ⟨rfl,hb⟩;refine ⟨_,rfl,?_⟩;have n0_:=Aside0.mk (blk_below (g:=gb269) (o:=.cells #[.string a0_0,.string a0_1,.string a0_2,.slice A0_3 l0_3.length c0_3,.slice A0_4 l0_4.length c0_4,.int .i64 a0_5,.int .i64 a0_6,.slice A0_7 l0_7.length c0_7] 67 (0,0)) (by (with_reducible repeat (first|refine blk_drewN ?_ _|refine blk_drew ?_|refine blk_alloc ?_ _));exact BK269.out) hb);have n1_:=Aside0.mk (below_step (by repeat (first|(with_reducible first|exact HB.out|apply below_alloc|apply pw_below_drewN|apply below_drew1|refine below_set ?_ GE269.out)|exact HB.out)) hb);clear BK269;clear HB;have BK269:=n0_;have HB:=n1_;clear n0_ n1_;(try clear hb);(try clear hb2);(try clear hk);(try clear hi);have hcz11_0:w10.cell? ⟨gb269,0,none⟩=some (.string a0_0):=(blk_cell BK269.out 0).trans rfl;have hcz11_1:w10.cell? ⟨gb269,1,none⟩=some (.string a0_1):=(blk_cell BK269.out 1).trans rfl;have hcz11_2:w10.cell? ⟨gb269,2,none⟩=some (.string a0_2):=(blk_cell BK269.out 2).trans rfl;have hcz11_3:w10.cell? ⟨gb269,3,none⟩=some (.slice A0_3 l0_3.length c0_3):=(blk_cell BK269.out 3).trans rfl;have hcz11_4:w10.cell? ⟨gb269,4,none⟩=some (.slice A0_4 l0_4.length c0_4):=(blk_cell BK269.out 4).trans rfl;have hcz11_5:w10.cell? ⟨gb269,5,none⟩=some (.int .i64 a0_5):=(blk_cell BK269.out 5).trans rfl;have hcz11_6:w10.cell? ⟨gb269,6,none⟩=some (.int .i64 a0_6):=(blk_cell BK269.out 6).trans rfl;have hcz11_7:w10.cell? ⟨gb269,7,none⟩=some (.slice A0_7 l0_7.length c0_7):=(blk_cell BK269.out 7).trans rfl;have hfz11_0:=blk_frozen BK269.out 0;have hfz11_1:=blk_frozen BK269.out 1;have hfz11_2:=blk_frozen BK269.out 2;have hfz11_3:=blk_frozen BK269.out 3;have hfz11_4:=blk_frozen BK269.out 4;have hfz11_5:=blk_frozen BK269.out 5;have hfz11_6:=blk_frozen BK269.out 6;have hfz11_7:=blk_frozen BK269.out 7)|(go_at_call 13;(with_reducible refine (impl_MailOk.calls k a0_1 a0_2 _ _ l0_3 _ _ l0_4 true _ ?side1 ?side2 ?side3 ?side4 ?side5 A6.out).mono ?_);(case side1=>repeat (first|exact (Kd.C_below HR0_3.out HB.out)|(with_reducible refine Kd.C_alloc ?_ _)|(with_reducible refine Kd.C_drewN ?_ _)|(with_reducible refine Kd.C_drew ?_)));(case side2=>exact HC0_3.out);(case side3=>repeat (first|exact (Kd.C_below HR0_4.out HB.out)|(with_reducible refine Kd.C_alloc ?_ _)|(with_reducible refine Kd.C_drewN ?_ _)|(with_reducible refine Kd.C_drew ?_)));(case side4=>exact HC0_4.out);(case side5=>first|(with_reducible exact HG.out)|((with_reducible repeat (first|exact HG.out|apply GOK.drewN|apply GOK.drew));done)|exact GOK.below HG.out (by repeat (first|(with_reducible first|exact HB.out|apply below_alloc|apply pw_below_drewN|apply below_drew1|refine below_set ?_ GE269.out)|exact HB.out)));rintro e w12 ⟨rfl,hb⟩;have n0_:=Aside0.mk (blk_below (g:=gb269) (o:=.cells #[.string a0_0,.string a0_1,.string a0_2,.slice A0_3 l0_3.length c0_3,.slice A0_4 l0_4.length c0_4,.int .i64 a0_5,.int .i64 a0_6,.slice A0_7 l0_7.length c0_7] 67 (0,0)) (by (with_reducible repeat (first|refine blk_drewN ?_ _|refine blk_drew ?_|refine blk_alloc ?_ _));exact BK269.out) hb);have n1_:=Aside0.mk (below_step (by repeat (first|(with_reducible first|exact HB.out|apply below_alloc|apply pw_below_drewN|apply below_drew1|refine below_set ?_ GE269.out)|exact HB.out)) hb);clear BK269;clear HB;have BK269:=n0_;have HB:=n1_;clear n0_ n1_;(try clear hb);(try clear hb2);(try clear hk);(try clear hi);have hcz13_0:w12.cell? ⟨gb269,0,none⟩=some (.string a0_0):=(blk_cell BK269.out 0).trans rfl;have hcz13_1:w12.cell? ⟨gb269,1,none⟩=some (.string a0_1):=(blk_cell BK269.out 1).trans rfl;have hcz13_2:w12.cell? ⟨gb269,2,none⟩=some (.string a0_2):=(blk_cell BK269.out 2).trans rfl;have hcz13_3:w12.cell? ⟨gb269,3,none⟩=some (.slice A0_3 l0_3.length c0_3):=(blk_cell BK269.out 3).trans rfl;have hcz13_4:w12.cell? ⟨gb269,4,none⟩=some (.slice A0_4 l0_4.length c0_4):=(blk_cell BK269.out 4).trans rfl;have hcz13_5:w12.cell? ⟨gb269,5,none⟩=some (.int .i64 a0_5):=(blk_cell BK269.out 5).trans rfl;have hcz13_6:w12.cell? ⟨gb269,6,none⟩=some (.int .i64 a0_6):=(blk_cell BK269.out 6).trans rfl;have hcz13_7:w12.cell? ⟨gb269,7,none⟩=some (.slice A0_7 l0_7.length c0_7):=(blk_cell BK269.out 7).trans rfl;have hfz13_0:=blk_frozen BK269.out 0;have hfz13_1:=blk_frozen BK269.out 1;have hfz13_2:=blk_frozen BK269.out 2;have hfz13_3:=blk_frozen BK269.out 3;have hfz13_4:=blk_frozen BK269.out 4;have hfz13_5:=blk_frozen BK269.out 5;have hfz13_6:=blk_frozen BK269.out 6;have hfz13_7:=blk_frozen BK269.out 7)|(go_at_call 49;(with_reducible refine (impl_within.calls a0_5 0 7 t272 _ A8.out).mono ?_);rintro e w' ⟨rfl,⟨nd,rfl⟩⟩))
        go_meet
        case rel=>exact ⟨_,(!t272),(by first|rfl|(simp;done)|(simp [*];done)),H',⟨by first|omega|exact Nat.le_refl _⟩,⟨by (with_reducible repeat (first|refine blk_drewN ?_ _|refine blk_drew ?_|refine blk_alloc ?_ _));exact BK269.out⟩,⟨by repeat (first|(with_reducible first|exact HB.out|apply below_alloc|apply pw_below_drewN|apply below_drew1|refine below_set ?_ GE269.out)|exact HB.out)⟩⟩
      · replace c7:=Bool.eq_false_iff.mpr c7
        subst c7
        have H1:(impl_CliOk.j0 k true a0_0 a0_1 a0_2 l0_3 l0_4 a0_5 a0_6 l0_7)=some r:=by rw [if_neg (show ¬ (false=true) by decide)] at H;exact H
        clear H
        have H:=H1
        clear H1
        have H':=Aside0.mk H
        clear H
        have hcz14_0:w3.cell? ⟨gb269,0,none⟩=some (.string a0_0):=(blk_cell BK269.out 0).trans rfl
        have hcz14_1:w3.cell? ⟨gb269,1,none⟩=some (.string a0_1):=(blk_cell BK269.out 1).trans rfl
        have hcz14_2:w3.cell? ⟨gb269,2,none⟩=some (.string a0_2):=(blk_cell BK269.out 2).trans rfl
        have hcz14_3:w3.cell? ⟨gb269,3,none⟩=some (.slice A0_3 l0_3.length c0_3):=(blk_cell BK269.out 3).trans rfl
        have hcz14_4:w3.cell? ⟨gb269,4,none⟩=some (.slice A0_4 l0_4.length c0_4):=(blk_cell BK269.out 4).trans rfl
        have hcz14_5:w3.cell? ⟨gb269,5,none⟩=some (.int .i64 a0_5):=(blk_cell BK269.out 5).trans rfl
        have hcz14_6:w3.cell? ⟨gb269,6,none⟩=some (.int .i64 a0_6):=(blk_cell BK269.out 6).trans rfl
        have hcz14_7:w3.cell? ⟨gb269,7,none⟩=some (.slice A0_7 l0_7.length c0_7):=(blk_cell BK269.out 7).trans rfl
        have hfz14_0:=blk_frozen BK269.out 0
        have hfz14_1:=blk_frozen BK269.out 1
        have hfz14_2:=blk_frozen BK269.out 2
        have hfz14_3:=blk_frozen BK269.out 3
        have hfz14_4:=blk_frozen BK269.out 4
        have hfz14_5:=blk_frozen BK269.out 5
        have hfz14_6:=blk_frozen BK269.out 6
        have hfz14_7:=blk_frozen BK269.out 7
        go_wp2_with (first|((with_reducible refine gate_callee (f:=63) rfl ?_);refine goesL_ (some 6) rfl rfl Tryd.func63 (by kernel_rfl) rfl #[.string a0_0] rfl (by (try simp only [List.map_toArray,List.map_cons,List.map_nil]);first|done|rfl|(simp only [List.length_drop,List.length_take];rfl)) ?_;(with_reducible refine (impl_DomainOk.calls k a0_0 true _ ?side1 A4.out).mono ?_);(case side1=>first|(with_reducible exact HG.out)|((with_reducible repeat (first|exact HG.out|apply GOK.drewN|apply GOK.drew));done)|exact GOK.below HG.out (by repeat (first|(with_reducible first|exact HB.out|apply below_alloc|apply pw_below_drewN|apply below_drew1|refine below_set ?_ GE269.out)|exact HB.out)));rintro e w15 ⟨rfl,hb⟩;refine ⟨_,rfl,?_⟩;have n0_:=Aside0.mk (blk_below (g:=gb269) (o:=.cells #[.string a0_0,.string a0_1,.string a0_2,.slice A0_3 l0_3.length c0_3,.slice A0_4 l0_4.length c0_4,.int .i64 a0_5,.int .i64 a0_6,.slice A0_7 l0_7.length c0_7] 67 (0,0)) (by (with_reducible repeat (first|refine blk_drewN ?_ _|refine blk_drew ?_|refine blk_alloc ?_ _));exact BK269.out) hb);have n1_:=Aside0.mk (below_step (by repeat (first|(with_reducible first|exact HB.out|apply below_alloc|apply pw_below_drewN|apply below_drew1|refine below_set ?_ GE269.out)|exact HB.out)) hb);clear BK269;clear HB;have BK269:=n0_;have HB:=n1_;clear n0_ n1_;(try clear hb);(try clear hb2);(try clear hk);(try clear hi);have hcz16_0:w15.cell? ⟨gb269,0,none⟩=some (.string a0_0):=(blk_cell BK269.out 0).trans rfl;have hcz16_1:w15.cell? ⟨gb269,1,none⟩=some (.string a0_1):=(blk_cell BK269.out 1).trans rfl;have hcz16_2:w15.cell? ⟨gb269,2,none⟩=some (.string a0_2):=(blk_cell BK269.out 2).trans rfl;have hcz16_3:w15.cell? ⟨gb269,3,none⟩=some (.slice A0_3 l0_3.length c0_3):=(blk_cell BK269.out 3).trans rfl;have hcz16_4:w15.cell? ⟨gb269,4,none⟩=some (.slice A0_4 l0_4.length c0_4):=(blk_cell BK269.out 4).trans rfl;have hcz16_5:w15.cell? ⟨gb269,5,none⟩=some (.int .i64 a0_5):=(blk_cell BK269.out 5).trans rfl;have hcz16_6:w15.cell? ⟨gb269,6,none⟩=some (.int .i64 a0_6):=(blk_cell BK269.out 6).trans rfl;have hcz16_7:w15.cell? ⟨gb269,7,none⟩=some (.slice A0_7 l0_7.length c0_7):=(blk_cell BK269.out 7).trans rfl;have hfz16_0:=blk_frozen BK269.out 0;have hfz16_1:=blk_frozen BK269.out 1;have hfz16_2:=blk_frozen BK269.out 2;have hfz16_3:=blk_frozen BK269.out 3;have hfz16_4:=blk_frozen BK269.out 4;have hfz16_5:=blk_frozen BK269.out 5;have hfz16_6:=blk_frozen BK269.out 6;have hfz16_7:=blk_frozen BK269.out 7)|(go_at_call 13;(with_reducible refine (impl_MailOk.calls k a0_1 a0_2 _ _ l0_3 _ _ l0_4 false _ ?side1 ?side2 ?side3 ?side4 ?side5 A6.out).mono ?_);(case side1=>repeat (first|exact (Kd.C_below HR0_3.out HB.out)|(with_reducible refine Kd.C_alloc ?_ _)|(with_reducible refine Kd.C_drewN ?_ _)|(with_reducible refine Kd.C_drew ?_)));(case side2=>exact HC0_3.out);(case side3=>repeat (first|exact (Kd.C_below HR0_4.out HB.out)|(with_reducible refine Kd.C_alloc ?_ _)|(with_reducible refine Kd.C_drewN ?_ _)|(with_reducible refine Kd.C_drew ?_)));(case side4=>exact HC0_4.out);(case side5=>first|(with_reducible exact HG.out)|((with_reducible repeat (first|exact HG.out|apply GOK.drewN|apply GOK.drew));done)|exact GOK.below HG.out (by repeat (first|(with_reducible first|exact HB.out|apply below_alloc|apply pw_below_drewN|apply below_drew1|refine below_set ?_ GE269.out)|exact HB.out)));rintro e w17 ⟨rfl,hb⟩;have n0_:=Aside0.mk (blk_below (g:=gb269) (o:=.cells #[.string a0_0,.string a0_1,.string a0_2,.slice A0_3 l0_3.length c0_3,.slice A0_4 l0_4.length c0_4,.int .i64 a0_5,.int .i64 a0_6,.slice A0_7 l0_7.length c0_7] 67 (0,0)) (by (with_reducible repeat (first|refine blk_drewN ?_ _|refine blk_drew ?_|refine blk_alloc ?_ _));exact BK269.out) hb);have n1_:=Aside0.mk (below_step (by repeat (first|(with_reducible first|exact HB.out|apply below_alloc|apply pw_below_drewN|apply below_drew1|refine below_set ?_ GE269.out)|exact HB.out)) hb);clear BK269;clear HB;have BK269:=n0_;have HB:=n1_;clear n0_ n1_;(try clear hb);(try clear hb2);(try clear hk);(try clear hi)))
        go_meet
        case rel=>exact ⟨_,(true),(by first|rfl|(simp;done)|(simp [*];done)),H',⟨by first|omega|exact Nat.le_refl _⟩,⟨by (with_reducible repeat (first|refine blk_drewN ?_ _|refine blk_drew ?_|refine blk_alloc ?_ _));exact BK269.out⟩,⟨by repeat (first|(with_reducible first|exact HB.out|apply below_alloc|apply pw_below_drewN|apply below_drew1|refine below_set ?_ GE269.out)|exact HB.out)⟩⟩
    · replace c5:=Bool.eq_false_iff.mpr c5
      subst c5
      have H1:(impl_CliOk.j0 k true a0_0 a0_1 a0_2 l0_3 l0_4 a0_5 a0_6 l0_7)=some r:=by rw [if_neg (show ¬ (false=true) by decide)] at H;exact H
      clear H
      have H:=H1
      clear H1
      have H':=Aside0.mk H
      clear H
      have hcz18_0:w3.cell? ⟨gb269,0,none⟩=some (.string a0_0):=(blk_cell BK269.out 0).trans rfl
      have hcz18_1:w3.cell? ⟨gb269,1,none⟩=some (.string a0_1):=(blk_cell BK269.out 1).trans rfl
      have hcz18_2:w3.cell? ⟨gb269,2,none⟩=some (.string a0_2):=(blk_cell BK269.out 2).trans rfl
      have hcz18_3:w3.cell? ⟨gb269,3,none⟩=some (.slice A0_3 l0_3.length c0_3):=(blk_cell BK269.out 3).trans rfl
      have hcz18_4:w3.cell? ⟨gb269,4,none⟩=some (.slice A0_4 l0_4.length c0_4):=(blk_cell BK269.out 4).trans rfl
      have hcz18_5:w3.cell? ⟨gb269,5,none⟩=some (.int .i64 a0_5):=(blk_cell BK269.out 5).trans rfl
      have hcz18_6:w3.cell? ⟨gb269,6,none⟩=some (.int .i64 a0_6):=(blk_cell BK269.out 6).trans rfl
      have hcz18_7:w3.cell? ⟨gb269,7,none⟩=some (.slice A0_7 l0_7.length c0_7):=(blk_cell BK269.out 7).trans rfl
      have hfz18_0:=blk_frozen BK269.out 0
      have hfz18_1:=blk_frozen BK269.out 1
      have hfz18_2:=blk_frozen BK269.out 2
      have hfz18_3:=blk_frozen BK269.out 3
      have hfz18_4:=blk_frozen BK269.out 4
      have hfz18_5:=blk_frozen BK269.out 5
      have hfz18_6:=blk_frozen BK269.out 6
      have hfz18_7:=blk_frozen BK269.out 7
      go_wp2_with (first|((with_reducible refine gate_callee (f:=63) rfl ?_);refine goesL_ (some 6) rfl rfl Tryd.func63 (by kernel_rfl) rfl #[.string a0_0] rfl (by (try simp only [List.map_toArray,List.map_cons,List.map_nil]);first|done|rfl|(simp only [List.length_drop,List.length_take];rfl)) ?_;(with_reducible refine (impl_DomainOk.calls k a0_0 false _ ?side1 A4.out).mono ?_);(case side1=>first|(with_reducible exact HG.out)|((with_reducible repeat (first|exact HG.out|apply GOK.drewN|apply GOK.drew));done)|exact GOK.below HG.out (by repeat (first|(with_reducible first|exact HB.out|apply below_alloc|apply pw_below_drewN|apply below_drew1|refine below_set ?_ GE269.out)|exact HB.out)));rintro e w19 ⟨rfl,hb⟩;refine ⟨_,rfl,?_⟩;have n0_:=Aside0.mk (blk_below (g:=gb269) (o:=.cells #[.string a0_0,.string a0_1,.string a0_2,.slice A0_3 l0_3.length c0_3,.slice A0_4 l0_4.length c0_4,.int .i64 a0_5,.int .i64 a0_6,.slice A0_7 l0_7.length c0_7] 67 (0,0)) (by (with_reducible repeat (first|refine blk_drewN ?_ _|refine blk_drew ?_|refine blk_alloc ?_ _));exact BK269.out) hb);have n1_:=Aside0.mk (below_step (by repeat (first|(with_reducible first|exact HB.out|apply below_alloc|apply pw_below_drewN|apply below_drew1|refine below_set ?_ GE269.out)|exact HB.out)) hb);clear BK269;clear HB;have BK269:=n0_;have HB:=n1_;clear n0_ n1_;(try clear hb);(try clear hb2);(try clear hk);(try clear hi)))
      go_meet
      case rel=>exact ⟨_,(true),(by first|rfl|(simp;done)|(simp [*];done)),H',⟨by first|omega|exact Nat.le_refl _⟩,⟨by (with_reducible repeat (first|refine blk_drewN ?_ _|refine blk_drew ?_|refine blk_alloc ?_ _));exact BK269.out⟩,⟨by repeat (first|(with_reducible first|exact HB.out|apply below_alloc|apply pw_below_drewN|apply below_drew1|refine below_set ?_ GE269.out)|exact HB.out)⟩⟩
  case rest =>
    clear HC2
    try clear p2
    try clear c3
    try clear c5
    try clear c6
    try clear c7
    try clear hcz11_0
    try clear hcz11_1
    try clear hcz11_2
    try clear hcz11_3
    try clear hcz11_4
    try clear hcz11_5
    try clear hcz11_6
    try clear hcz11_7
    try clear hcz13_0
    try clear hcz13_1
    try clear hcz13_2
    try clear hcz13_3
    try clear hcz13_4
    try clear hcz13_5
    try clear hcz13_6
    try clear hcz13_7
    try clear hcz14_0
    try clear hcz14_1
    try clear hcz14_2
    try clear hcz14_3
    try clear hcz14_4
    try clear hcz14_5
    try clear hcz14_6
    try clear hcz14_7
    try clear hcz16_0
    try clear hcz16_1
    try clear hcz16_2
    try clear hcz16_3
    try clear hcz16_4
    try clear hcz16_5
    try clear hcz16_6
    try clear hcz16_7
    try clear hcz18_0
    try clear hcz18_1
    try clear hcz18_2
    try clear hcz18_3
    try clear hcz18_4
    try clear hcz18_5
    try clear hcz18_6
    try clear hcz18_7
    try clear hcz9_0
    try clear hcz9_1
    try clear hcz9_2
    try clear hcz9_3
    try clear hcz9_4
    try clear hcz9_5
    try clear hcz9_6
    try clear hcz9_7
    try clear hfz11_0
    try clear hfz11_1
    try clear hfz11_2
    try clear hfz11_3
    try clear hfz11_4
    try clear hfz11_5
    try clear hfz11_6
    try clear hfz11_7
    try clear hfz13_0
    try clear hfz13_1
    try clear hfz13_2
    try clear hfz13_3
    try clear hfz13_4
    try clear hfz13_5
    try clear hfz13_6
    try clear hfz13_7
    try clear hfz14_0
    try clear hfz14_1
    try clear hfz14_2
    try clear hfz14_3
    try clear hfz14_4
    try clear hfz14_5
    try clear hfz14_6
    try clear hfz14_7
    try clear hfz16_0
    try clear hfz16_1
    try clear hfz16_2
    try clear hfz16_3
    try clear hfz16_4
    try clear hfz16_5
    try clear hfz16_6
    try clear hfz16_7
    try clear hfz18_0
    try clear hfz18_1
    try clear hfz18_2
    try clear hfz18_3
    try clear hfz18_4
    try clear hfz18_5
    try clear hfz18_6
    try clear hfz18_7
    try clear hfz9_0
    try clear hfz9_1
    try clear hfz9_2
    try clear hfz9_3
    try clear hfz9_4
    try clear hfz9_5
    try clear hfz9_6
    try clear hfz9_7
    obtain ⟨kq,x19_1,rfl,HA,HJ1,BK269,HB⟩:=hcut
    cases kq with
    | zero=>exact absurd HA.out (by simp [impl_CliOk.j0])
    | succ kj1 =>
      have H:=HA.out
      clear HA
      simp only [impl_CliOk.j0] at H
      by_cases c20:x19_1=true
      · subst c20
        have H1:(some false)=some r:=by rw [if_pos rfl] at H;exact H
        clear H
        have H:=H1
        clear H1
        obtain rfl:=Option.some.inj H
        go_wp2
        go_ret
        exact ⟨by first|rfl|(simp [errW_none,errW_some]<;>rfl)|(simp [*,errW_none,errW_some]<;>rfl),by repeat (first|(with_reducible first|exact HB.out|apply below_alloc|apply pw_below_drewN|apply below_drew1|refine below_set ?_ GE269.out)|exact HB.out)⟩
      · replace c20:=Bool.eq_false_iff.mpr c20
        subst c20
        have H1:((impl_within.f a0_6 0 (l0_3.length:Int)).bind fun t273=>(if t273=true then (if a0_5=3 then (if a0_6 > 0 then (if (l0_7.length:Int)=(l0_3.length:Int) then ((slices_ContainsFunc_int_int_at76.f kj1 l0_7).bind fun t274=>(some (!t274))) else (some false)) else (some false)) else (if (l0_7.length:Int)=(l0_3.length:Int) then ((slices_ContainsFunc_int_int_at76.f kj1 l0_7).bind fun t275=>(some (!t275))) else (some false))) else (some false)))=some r:=by rw [if_neg (show ¬ (false=true) by decide)] at H;exact H
        clear H
        have H:=H1
        clear H1
        replace H:=Option.bind_eq_some_iff.mp H
        obtain ⟨t273,A210,H⟩:=H
        replace H:(if t273=true then (if a0_5=3 then (if a0_6 > 0 then (if (l0_7.length:Int)=(l0_3.length:Int) then ((slices_ContainsFunc_int_int_at76.f kj1 l0_7).bind fun t274=>(some (!t274))) else (some false)) else (some false)) else (if (l0_7.length:Int)=(l0_3.length:Int) then ((slices_ContainsFunc_int_int_at76.f kj1 l0_7).bind fun t275=>(some (!t275))) else (some false))) else (some false))=some r:=H
        have A21:=Aside0.mk A210
        clear A210
        by_cases c22:t273=true
        · subst c22
          have H1:(if a0_5=3 then (if a0_6 > 0 then (if (l0_7.length:Int)=(l0_3.length:Int) then ((slices_ContainsFunc_int_int_at76.f kj1 l0_7).bind fun t274=>(some (!t274))) else (some false)) else (some false)) else (if (l0_7.length:Int)=(l0_3.length:Int) then ((slices_ContainsFunc_int_int_at76.f kj1 l0_7).bind fun t275=>(some (!t275))) else (some false)))=some r:=by rw [if_pos rfl] at H;exact H
          clear H
          have H:=H1
          clear H1
          by_cases c23:a0_5=3
          · rw [if_pos c23] at H
            have c23b0:(a0_5==3)=true:=beq_iff_eq.mpr c23
            have c23b1:(a0_5 != 3)=false:=bne_eq_false_iff_eq.mpr c23
            clear c23
            by_cases c24:a0_6 > 0
            · rw [if_pos c24] at H
              have c24b0:decide (0 < a0_6)=true:=decide_eq_true c24
              clear c24
              by_cases c25:(l0_7.length:Int)=(l0_3.length:Int)
              · rw [if_pos c25] at H
                have c25b0:((l0_7.length:Int)==(l0_3.length:Int))=true:=beq_iff_eq.mpr c25
                have c25b1:((l0_7.length:Int) != (l0_3.length:Int))=false:=bne_eq_false_iff_eq.mpr c25
                have c25b2:(l0_7.length==l0_3.length)=true:=by first|simpa using c25|(simp at c25 ⊢;omega)
                clear c25
                replace H:=Option.bind_eq_some_iff.mp H
                obtain ⟨t274,A260,H⟩:=H
                replace H:(some (!t274))=some r:=H
                have A26:=Aside0.mk A260
                clear A260
                obtain rfl:=Option.some.inj H
                have hcz27_0:wc.cell? ⟨gb269,0,none⟩=some (.string a0_0):=(blk_cell BK269.out 0).trans rfl
                have hcz27_1:wc.cell? ⟨gb269,1,none⟩=some (.string a0_1):=(blk_cell BK269.out 1).trans rfl
                have hcz27_2:wc.cell? ⟨gb269,2,none⟩=some (.string a0_2):=(blk_cell BK269.out 2).trans rfl
                have hcz27_3:wc.cell? ⟨gb269,3,none⟩=some (.slice A0_3 l0_3.length c0_3):=(blk_cell BK269.out 3).trans rfl
                have hcz27_4:wc.cell? ⟨gb269,4,none⟩=some (.slice A0_4 l0_4.length c0_4):=(blk_cell BK269.out 4).trans rfl
                have hcz27_5:wc.cell? ⟨gb269,5,none⟩=some (.int .i64 a0_5):=(blk_cell BK269.out 5).trans rfl
                have hcz27_6:wc.cell? ⟨gb269,6,none⟩=some (.int .i64 a0_6):=(blk_cell BK269.out 6).trans rfl
                have hcz27_7:wc.cell? ⟨gb269,7,none⟩=some (.slice A0_7 l0_7.length c0_7):=(blk_cell BK269.out 7).trans rfl
                have hfz27_0:=blk_frozen BK269.out 0
                have hfz27_1:=blk_frozen BK269.out 1
                have hfz27_2:=blk_frozen BK269.out 2
                have hfz27_3:=blk_frozen BK269.out 3
                have hfz27_4:=blk_frozen BK269.out 4
                have hfz27_5:=blk_frozen BK269.out 5
                have hfz27_6:=blk_frozen BK269.out 6
                have hfz27_7:=blk_frozen BK269.out 7
                go_wp2_with (first|((with_reducible refine gate_callee (f:=49) rfl ?_);refine goesL_ (some 26) rfl rfl Tryd.func49 (by kernel_rfl) rfl #[.int .i64 a0_6,.int .i64 0,.int .i64 (l0_3.length:Int)] rfl (by (try simp only [List.map_toArray,List.map_cons,List.map_nil]);first|done|rfl|(simp only [List.length_drop,List.length_take];rfl)) ?_;(with_reducible refine (impl_within.calls a0_6 0 (l0_3.length:Int) true _ A21.out).mono ?_);rintro e w' ⟨rfl,⟨nd,rfl⟩⟩;refine ⟨_,rfl,?_⟩)|(go_at_call 77;(with_reducible refine (slices_ContainsFunc_int_int_at76.calls kj1 _ _ l0_7  t274 _ ?side1 ?side2 A26.out).mono ?_);(case side1=>repeat (first|exact (Kd.C_below HR0_7.out (by repeat (first|(with_reducible first|exact HB.out|apply below_alloc|apply pw_below_drewN|apply below_drew1|refine below_set ?_ GE269.out)|exact HB.out)))|(with_reducible refine Kd.C_alloc ?_ _)|(with_reducible refine Kd.C_drewN ?_ _)|(with_reducible refine Kd.C_drew ?_)));(case side2=>exact HC0_7.out);rintro e w' ⟨rfl,⟨nd,rfl⟩⟩))
                go_ret
                exact ⟨by first|rfl|(simp [errW_none,errW_some]<;>rfl)|(simp [*,errW_none,errW_some]<;>rfl),by repeat (first|(with_reducible first|exact HB.out|apply below_alloc|apply pw_below_drewN|apply below_drew1|refine below_set ?_ GE269.out)|exact HB.out)⟩
              · rw [if_neg c25] at H
                have c25b0:((l0_7.length:Int)==(l0_3.length:Int))=false:=beq_eq_false_iff_ne.mpr c25
                have c25b1:((l0_7.length:Int) != (l0_3.length:Int))=true:=bne_iff_ne.mpr c25
                have c25b2:(l0_7.length==l0_3.length)=false:=by first|simpa using c25|(simp at c25 ⊢;omega)
                obtain rfl:=Option.some.inj H
                have hcz28_0:wc.cell? ⟨gb269,0,none⟩=some (.string a0_0):=(blk_cell BK269.out 0).trans rfl
                have hcz28_1:wc.cell? ⟨gb269,1,none⟩=some (.string a0_1):=(blk_cell BK269.out 1).trans rfl
                have hcz28_2:wc.cell? ⟨gb269,2,none⟩=some (.string a0_2):=(blk_cell BK269.out 2).trans rfl
                have hcz28_3:wc.cell? ⟨gb269,3,none⟩=some (.slice A0_3 l0_3.length c0_3):=(blk_cell BK269.out 3).trans rfl
                have hcz28_4:wc.cell? ⟨gb269,4,none⟩=some (.slice A0_4 l0_4.length c0_4):=(blk_cell BK269.out 4).trans rfl
                have hcz28_5:wc.cell? ⟨gb269,5,none⟩=some (.int .i64 a0_5):=(blk_cell BK269.out 5).trans rfl
                have hcz28_6:wc.cell? ⟨gb269,6,none⟩=some (.int .i64 a0_6):=(blk_cell BK269.out 6).trans rfl
                have hcz28_7:wc.cell? ⟨gb269,7,none⟩=some (.slice A0_7 l0_7.length c0_7):=(blk_cell BK269.out 7).trans rfl
                have hfz28_0:=blk_frozen BK269.out 0
                have hfz28_1:=blk_frozen BK269.out 1
                have hfz28_2:=blk_frozen BK269.out 2
                have hfz28_3:=blk_frozen BK269.out 3
                have hfz28_4:=blk_frozen BK269.out 4
                have hfz28_5:=blk_frozen BK269.out 5
                have hfz28_6:=blk_frozen BK269.out 6
                have hfz28_7:=blk_frozen BK269.out 7
                go_wp2_with (first|((with_reducible refine gate_callee (f:=49) rfl ?_);refine goesL_ (some 26) rfl rfl Tryd.func49 (by kernel_rfl) rfl #[.int .i64 a0_6,.int .i64 0,.int .i64 (l0_3.length:Int)] rfl (by (try simp only [List.map_toArray,List.map_cons,List.map_nil]);first|done|rfl|(simp only [List.length_drop,List.length_take];rfl)) ?_;(with_reducible refine (impl_within.calls a0_6 0 (l0_3.length:Int) true _ A21.out).mono ?_);rintro e w' ⟨rfl,⟨nd,rfl⟩⟩;refine ⟨_,rfl,?_⟩))
                go_ret
                exact ⟨by first|rfl|(simp [errW_none,errW_some]<;>rfl)|(simp [*,errW_none,errW_some]<;>rfl),by repeat (first|(with_reducible first|exact HB.out|apply below_alloc|apply pw_below_drewN|apply below_drew1|refine below_set ?_ GE269.out)|exact HB.out)⟩
            · rw [if_neg c24] at H
              have c24b0:decide (0 < a0_6)=false:=decide_eq_false c24
              clear c24
              obtain rfl:=Option.some.inj H
              have hcz29_0:wc.cell? ⟨gb269,0,none⟩=some (.string a0_0):=(blk_cell BK269.out 0).trans rfl
              have hcz29_1:wc.cell? ⟨gb269,1,none⟩=some (.string a0_1):=(blk_cell BK269.out 1).trans rfl
              have hcz29_2:wc.cell? ⟨gb269,2,none⟩=some (.string a0_2):=(blk_cell BK269.out 2).trans rfl
              have hcz29_3:wc.cell? ⟨gb269,3,none⟩=some (.slice A0_3 l0_3.length c0_3):=(blk_cell BK269.out 3).trans rfl
              have hcz29_4:wc.cell? ⟨gb269,4,none⟩=some (.slice A0_4 l0_4.length c0_4):=(blk_cell BK269.out 4).trans rfl
              have hcz29_5:wc.cell? ⟨gb269,5,none⟩=some (.int .i64 a0_5):=(blk_cell BK269.out 5).trans rfl
              have hcz29_6:wc.cell? ⟨gb269,6,none⟩=some (.int .i64 a0_6):=(blk_cell BK269.out 6).trans rfl
              have hcz29_7:wc.cell? ⟨gb269,7,none⟩=some (.slice A0_7 l0_7.length c0_7):=(blk_cell BK269.out 7).trans rfl
              have hfz29_0:=blk_frozen BK269.out 0
              have hfz29_1:=blk_frozen BK269.out 1
              have hfz29_2:=blk_frozen BK269.out 2
              have hfz29_3:=blk_frozen BK269.out 3
              have hfz29_4:=blk_frozen BK269.out 4
              have hfz29_5:=blk_frozen BK269.out 5
              have hfz29_6:=blk_frozen BK269.out 6
              have hfz29_7:=blk_frozen BK269.out 7
              go_wp2_with (first|((with_reducible refine gate_callee (f:=49) rfl ?_);refine goesL_ (some 26) rfl rfl Tryd.func49 (by kernel_rfl) rfl #[.int .i64 a0_6,.int .i64 0,.int .i64 (l0_3.length:Int)] rfl (by (try simp only [List.map_toArray,List.map_cons,List.map_nil]);first|done|rfl|(simp only [List.length_drop,List.length_take];rfl)) ?_;(with_reducible refine (impl_within.calls a0_6 0 (l0_3.length:Int) true _ A21.out).mono ?_);rintro e w' ⟨rfl,⟨nd,rfl⟩⟩;refine ⟨_,rfl,?_⟩))
              go_ret
              exact ⟨by first|rfl|(simp [errW_none,errW_some]<;>rfl)|(simp [*,errW_none,errW_some]<;>rfl),by repeat (first|(with_reducible first|exact HB.out|apply below_alloc|apply pw_below_drewN|apply below_drew1|refine below_set ?_ GE269.out)|exact HB.out)⟩
          · rw [if_neg c23] at H
            have c23b0:(a0_5==3)=false:=beq_eq_false_iff_ne.mpr c23
            have c23b1:(a0_5 != 3)=true:=bne_iff_ne.mpr c23
            by_cases c30:(l0_7.length:Int)=(l0_3.length:Int)
            · rw [if_pos c30] at H
              have c30b0:((l0_7.length:Int)==(l0_3.length:Int))=true:=beq_iff_eq.mpr c30
              have c30b1:((l0_7.length:Int) != (l0_3.length:Int))=false:=bne_eq_false_iff_eq.mpr c30
              have c30b2:(l0_7.length==l0_3.length)=true:=by first|simpa using c30|(simp at c30 ⊢;omega)
              clear c30
              replace H:=Option.bind_eq_some_iff.mp H
              obtain ⟨t275,A310,H⟩:=H
              replace H:(some (!t275))=some r:=H
              have A31:=Aside0.mk A310
              clear A310
              obtain rfl:=Option.some.inj H
              have hcz32_0:wc.cell? ⟨gb269,0,none⟩=some (.string a0_0):=(blk_cell BK269.out 0).trans rfl
              have hcz32_1:wc.cell? ⟨gb269,1,none⟩=some (.string a0_1):=(blk_cell BK269.out 1).trans rfl
              have hcz32_2:wc.cell? ⟨gb269,2,none⟩=some (.string a0_2):=(blk_cell BK269.out 2).trans rfl
              have hcz32_3:wc.cell? ⟨gb269,3,none⟩=some (.slice A0_3 l0_3.length c0_3):=(blk_cell BK269.out 3).trans rfl
              have hcz32_4:wc.cell? ⟨gb269,4,none⟩=some (.slice A0_4 l0_4.length c0_4):=(blk_cell BK269.out 4).trans rfl
              have hcz32_5:wc.cell? ⟨gb269,5,none⟩=some (.int .i64 a0_5):=(blk_cell BK269.out 5).trans rfl
              have hcz32_6:wc.cell? ⟨gb269,6,none⟩=some (.int .i64 a0_6):=(blk_cell BK269.out 6).trans rfl
              have hcz32_7:wc.cell? ⟨gb269,7,none⟩=some (.slice A0_7 l0_7.length c0_7):=(blk_cell BK269.out 7).trans rfl
              have hfz32_0:=blk_frozen BK269.out 0
              have hfz32_1:=blk_frozen BK269.out 1
              have hfz32_2:=blk_frozen BK269.out 2
              have hfz32_3:=blk_frozen BK269.out 3
              have hfz32_4:=blk_frozen BK269.out 4
              have hfz32_5:=blk_frozen BK269.out 5
              have hfz32_6:=blk_frozen BK269.out 6
              have hfz32_7:=blk_frozen BK269.out 7
              go_wp2_with (first|((with_reducible refine gate_callee (f:=49) rfl ?_);refine goesL_ (some 26) rfl rfl Tryd.func49 (by kernel_rfl) rfl #[.int .i64 a0_6,.int .i64 0,.int .i64 (l0_3.length:Int)] rfl (by (try simp only [List.map_toArray,List.map_cons,List.map_nil]);first|done|rfl|(simp only [List.length_drop,List.length_take];rfl)) ?_;(with_reducible refine (impl_within.calls a0_6 0 (l0_3.length:Int) true _ A21.out).mono ?_);rintro e w' ⟨rfl,⟨nd,rfl⟩⟩;refine ⟨_,rfl,?_⟩)|(go_at_call 77;(with_reducible refine (slices_ContainsFunc_int_int_at76.calls kj1 _ _ l0_7  t275 _ ?side1 ?side2 A31.out).mono ?_);(case side1=>repeat (first|exact (Kd.C_below HR0_7.out (by repeat (first|(with_reducible first|exact HB.out|apply below_alloc|apply pw_below_drewN|apply below_drew1|refine below_set ?_ GE269.out)|exact HB.out)))|(with_reducible refine Kd.C_alloc ?_ _)|(with_reducible refine Kd.C_drewN ?_ _)|(with_reducible refine Kd.C_drew ?_)));(case side2=>exact HC0_7.out);rintro e w' ⟨rfl,⟨nd,rfl⟩⟩))
              go_ret
              exact ⟨by first|rfl|(simp [errW_none,errW_some]<;>rfl)|(simp [*,errW_none,errW_some]<;>rfl),by repeat (first|(with_reducible first|exact HB.out|apply below_alloc|apply pw_below_drewN|apply below_drew1|refine below_set ?_ GE269.out)|exact HB.out)⟩
            · rw [if_neg c30] at H
              have c30b0:((l0_7.length:Int)==(l0_3.length:Int))=false:=beq_eq_false_iff_ne.mpr c30
              have c30b1:((l0_7.length:Int) != (l0_3.length:Int))=true:=bne_iff_ne.mpr c30
              have c30b2:(l0_7.length==l0_3.length)=false:=by first|simpa using c30|(simp at c30 ⊢;omega)
              obtain rfl:=Option.some.inj H
              have hcz33_0:wc.cell? ⟨gb269,0,none⟩=some (.string a0_0):=(blk_cell BK269.out 0).trans rfl
              have hcz33_1:wc.cell? ⟨gb269,1,none⟩=some (.string a0_1):=(blk_cell BK269.out 1).trans rfl
              have hcz33_2:wc.cell? ⟨gb269,2,none⟩=some (.string a0_2):=(blk_cell BK269.out 2).trans rfl
              have hcz33_3:wc.cell? ⟨gb269,3,none⟩=some (.slice A0_3 l0_3.length c0_3):=(blk_cell BK269.out 3).trans rfl
              have hcz33_4:wc.cell? ⟨gb269,4,none⟩=some (.slice A0_4 l0_4.length c0_4):=(blk_cell BK269.out 4).trans rfl
              have hcz33_5:wc.cell? ⟨gb269,5,none⟩=some (.int .i64 a0_5):=(blk_cell BK269.out 5).trans rfl
              have hcz33_6:wc.cell? ⟨gb269,6,none⟩=some (.int .i64 a0_6):=(blk_cell BK269.out 6).trans rfl
              have hcz33_7:wc.cell? ⟨gb269,7,none⟩=some (.slice A0_7 l0_7.length c0_7):=(blk_cell BK269.out 7).trans rfl
              have hfz33_0:=blk_frozen BK269.out 0
              have hfz33_1:=blk_frozen BK269.out 1
              have hfz33_2:=blk_frozen BK269.out 2
              have hfz33_3:=blk_frozen BK269.out 3
              have hfz33_4:=blk_frozen BK269.out 4
              have hfz33_5:=blk_frozen BK269.out 5
              have hfz33_6:=blk_frozen BK269.out 6
              have hfz33_7:=blk_frozen BK269.out 7
              go_wp2_with (first|((with_reducible refine gate_callee (f:=49) rfl ?_);refine goesL_ (some 26) rfl rfl Tryd.func49 (by kernel_rfl) rfl #[.int .i64 a0_6,.int .i64 0,.int .i64 (l0_3.length:Int)] rfl (by (try simp only [List.map_toArray,List.map_cons,List.map_nil]);first|done|rfl|(simp only [List.length_drop,List.length_take];rfl)) ?_;(with_reducible refine (impl_within.calls a0_6 0 (l0_3.length:Int) true _ A21.out).mono ?_);rintro e w' ⟨rfl,⟨nd,rfl⟩⟩;refine ⟨_,rfl,?_⟩))
              go_ret
              exact ⟨by first|rfl|(simp [errW_none,errW_some]<;>rfl)|(simp [*,errW_none,errW_some]<;>rfl),by repeat (first|(with_reducible first|exact HB.out|apply below_alloc|apply pw_below_drewN|apply below_drew1|refine below_set ?_ GE269.out)|exact HB.out)⟩
        · replace c22:=Bool.eq_false_iff.mpr c22
          subst c22
          have H1:(some false)=some r:=by rw [if_neg (show ¬ (false=true) by decide)] at H;exact H
          clear H
          have H:=H1
          clear H1
          obtain rfl:=Option.some.inj H
          have hcz34_0:wc.cell? ⟨gb269,0,none⟩=some (.string a0_0):=(blk_cell BK269.out 0).trans rfl
          have hcz34_1:wc.cell? ⟨gb269,1,none⟩=some (.string a0_1):=(blk_cell BK269.out 1).trans rfl
          have hcz34_2:wc.cell? ⟨gb269,2,none⟩=some (.string a0_2):=(blk_cell BK269.out 2).trans rfl
          have hcz34_3:wc.cell? ⟨gb269,3,none⟩=some (.slice A0_3 l0_3.length c0_3):=(blk_cell BK269.out 3).trans rfl
          have hcz34_4:wc.cell? ⟨gb269,4,none⟩=some (.slice A0_4 l0_4.length c0_4):=(blk_cell BK269.out 4).trans rfl
          have hcz34_5:wc.cell? ⟨gb269,5,none⟩=some (.int .i64 a0_5):=(blk_cell BK269.out 5).trans rfl
          have hcz34_6:wc.cell? ⟨gb269,6,none⟩=some (.int .i64 a0_6):=(blk_cell BK269.out 6).trans rfl
          have hcz34_7:wc.cell? ⟨gb269,7,none⟩=some (.slice A0_7 l0_7.length c0_7):=(blk_cell BK269.out 7).trans rfl
          have hfz34_0:=blk_frozen BK269.out 0
          have hfz34_1:=blk_frozen BK269.out 1
          have hfz34_2:=blk_frozen BK269.out 2
          have hfz34_3:=blk_frozen BK269.out 3
          have hfz34_4:=blk_frozen BK269.out 4
          have hfz34_5:=blk_frozen BK269.out 5
          have hfz34_6:=blk_frozen BK269.out 6
          have hfz34_7:=blk_frozen BK269.out 7
          go_wp2_with (first|((with_reducible refine gate_callee (f:=49) rfl ?_);refine goesL_ (some 26) rfl rfl Tryd.func49 (by kernel_rfl) rfl #[.int .i64 a0_6,.int .i64 0,.int .i64 (l0_3.length:Int)] rfl (by (try simp only [List.map_toArray,List.map_cons,List.map_nil]);first|done|rfl|(simp only [List.length_drop,List.length_take];rfl)) ?_;(with_reducible refine (impl_within.calls a0_6 0 (l0_3.length:Int) false _ A21.out).mono ?_);rintro e w' ⟨rfl,⟨nd,rfl⟩⟩;refine ⟨_,rfl,?_⟩))
          go_ret
          exact ⟨by first|rfl|(simp [errW_none,errW_some]<;>rfl)|(simp [*,errW_none,errW_some]<;>rfl),by repeat (first|(with_reducible first|exact HB.out|apply below_alloc|apply pw_below_drewN|apply below_drew1|refine below_set ?_ GE269.out)|exact HB.out)⟩
end Go.Proofs.YthkibaldmjfmmaaDoor.Q
