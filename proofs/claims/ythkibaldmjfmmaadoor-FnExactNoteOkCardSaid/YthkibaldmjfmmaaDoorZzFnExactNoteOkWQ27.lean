/- Of a text of ours what this claim needs. -/
import Derived.Test.YthkibaldmjfmmaaDoorZzFnExactNoteOkWQ0
import Derived.Test.YthkibaldmjfmmaaDoorZzFnExactNoteOkWQ8
import Derived.Test.YthkibaldmjfmmaaDoorZzFnExactNoteOkWQ26
namespace Go.Proofs.YthkibaldmjfmmaaDoor.Q
open Go.RowKit Go.Proofs.YthkibaldmjfmmaaDoorW.PrintWords Go.Proofs.YthkibaldmjfmmaaDoorW.PrintLast Go.Proofs.YthkibaldmjfmmaaDoorW.PrintMore
attribute [local go_sem] max2_int min2_int max_two min_two max_three min_three max_four min_four
set_option linter.unusedVariables false
set_option linter.unusedSimpArgs false
def spec_NoteOk.f (k:Nat) (a0_0:Int) (a0_1:Int) (a0_2:ByteArray) (a0_3:ByteArray) (a0_4:Int) (a0_5:ByteArray) (a0_6:ByteArray) (l0_7:List (S30)) (l0_8:List ByteArray):Option (Bool):=(spec_l6Ok.f k a0_0 a0_1 a0_2 a0_3 a0_4 a0_5 a0_6 l0_7 l0_8).bind fun t227=>(some t227)
set_option maxHeartbeats 8000000 in
set_option maxRecDepth 100000 in
theorem spec_NoteOk.calls (k:Nat) (a0_0:Int) (a0_1:Int) (a0_2:ByteArray) (a0_3:ByteArray) (a0_4:Int) (a0_5:ByteArray) (a0_6:ByteArray) (A0_7:Option Addr) (c0_7:Nat) (l0_7:List (S30)) (A0_8:Option Addr) (c0_8:Nat) (l0_8:List ByteArray) (r:Bool) (w:World) (hr0_7:Kd.C k30 w A0_7 l0_7.length l0_7) (hc0_7:l0_7.length≤c0_7) (hr0_8:Kd.C Kd.string w A0_8 l0_8.length l0_8) (hc0_8:l0_8.length≤c0_8) (h:spec_NoteOk.f k a0_0 a0_1 a0_2 a0_3 a0_4 a0_5 a0_6 l0_7 l0_8=some r) :
    Calls Tryd.prog 25 #[.agg #[.int .i64 a0_0,.int .i64 a0_1,.string a0_2,.string a0_3,.int .i64 a0_4,.string a0_5,.string a0_6,.slice A0_7 l0_7.length c0_7,.slice A0_8 l0_8.length c0_8]] w fun e w'=>e=.returned (.bool r)∧Below w.heap.size w w':=by
  have hu57:=Tryd.underlying57
  have HR0_7:=Aside0.mk hr0_7
  have HC0_7:=Aside0.mk hc0_7
  clear hr0_7 hc0_7
  have HR0_8:=Aside0.mk hr0_8
  have HC0_8:=Aside0.mk hc0_8
  clear hr0_8 hc0_8
  have HB:=Aside0.mk (Below.refl w.heap.size w)
  have H:((spec_l6Ok.f k a0_0 a0_1 a0_2 a0_3 a0_4 a0_5 a0_6 l0_7 l0_8).bind fun t227=>(some t227))=some r:=h
  clear h
  replace H:=Option.bind_eq_some_iff.mp H
  obtain ⟨t227,A20,H⟩:=H
  replace H:(some t227)=some r:=H
  have A2:=Aside0.mk A20
  clear A20
  obtain rfl:=Option.some.inj H
  go_enter Tryd.func25,Tryd.ntmps25
  go_wp2_with (first|((with_reducible refine gate_dst (N:=1) rfl ?_);refine box_event ?hg (N:=1) ?hd (cs:=#[.int .i64 a0_0,.int .i64 a0_1,.string a0_2,.string a0_3,.int .i64 a0_4,.string a0_5,.string a0_6,.slice A0_7 l0_7.length c0_7,.slice A0_8 l0_8.length c0_8]) (t:=57) ?hr ?_;(case hd=>rfl);(case hg=>rfl);(case hr=>first|(go_simp;done)|(go_simp;rfl));intro gb226 hg w3 hbox hb;have n0_:=Aside0.mk (below_step (by repeat (first|(with_reducible first|exact HB.out|apply below_alloc|apply pw_below_drewN|apply below_drew1)|exact HB.out)) hb);have n1_:=Aside0.mk (hbox);have n2_:=Aside0.mk ((by rw [hg];exact (below_size (by repeat (first|(with_reducible first|exact HB.out|apply below_alloc|apply pw_below_drewN|apply below_drew1)|exact HB.out))):w.heap.size≤gb226));have n3_:=Aside0.mk ((by rw [hg];exact (below_size (by repeat (first|(with_reducible first|exact HB.out|apply below_alloc|apply pw_below_drewN|apply below_drew1)|exact HB.out))):w.heap.size≤gb226));clear HB;have HB:=n0_;have BK226:=n1_;have GW226:=n2_;have GE226:=n3_;clear n0_ n1_ n2_ n3_;clear hb hbox hg;have hcz4_0:w3.cell? ⟨gb226,0,none⟩=some (.int .i64 a0_0):=(blk_cell BK226.out 0).trans rfl;have hcz4_1:w3.cell? ⟨gb226,1,none⟩=some (.int .i64 a0_1):=(blk_cell BK226.out 1).trans rfl;have hcz4_2:w3.cell? ⟨gb226,2,none⟩=some (.string a0_2):=(blk_cell BK226.out 2).trans rfl;have hcz4_3:w3.cell? ⟨gb226,3,none⟩=some (.string a0_3):=(blk_cell BK226.out 3).trans rfl;have hcz4_4:w3.cell? ⟨gb226,4,none⟩=some (.int .i64 a0_4):=(blk_cell BK226.out 4).trans rfl;have hcz4_5:w3.cell? ⟨gb226,5,none⟩=some (.string a0_5):=(blk_cell BK226.out 5).trans rfl;have hcz4_6:w3.cell? ⟨gb226,6,none⟩=some (.string a0_6):=(blk_cell BK226.out 6).trans rfl;have hcz4_7:w3.cell? ⟨gb226,7,none⟩=some (.slice A0_7 l0_7.length c0_7):=(blk_cell BK226.out 7).trans rfl;have hcz4_8:w3.cell? ⟨gb226,8,none⟩=some (.slice A0_8 l0_8.length c0_8):=(blk_cell BK226.out 8).trans rfl;have hfz4_0:=blk_frozen BK226.out 0;have hfz4_1:=blk_frozen BK226.out 1;have hfz4_2:=blk_frozen BK226.out 2;have hfz4_3:=blk_frozen BK226.out 3;have hfz4_4:=blk_frozen BK226.out 4;have hfz4_5:=blk_frozen BK226.out 5;have hfz4_6:=blk_frozen BK226.out 6;have hfz4_7:=blk_frozen BK226.out 7;have hfz4_8:=blk_frozen BK226.out 8)|((with_reducible refine gate_callee (f:=69) rfl ?_);refine goesL_ (some 4) rfl rfl Tryd.func69 (by kernel_rfl) rfl #[.agg #[.int .i64 a0_0,.int .i64 a0_1,.string a0_2,.string a0_3,.int .i64 a0_4,.string a0_5,.string a0_6,.slice A0_7 l0_7.length c0_7,.slice A0_8 l0_8.length c0_8]] rfl (by (try simp only [List.map_toArray,List.map_cons,List.map_nil]);first|done|rfl|(simp only [List.length_drop,List.length_take];rfl)) ?_;(with_reducible refine (spec_l6Ok.calls k a0_0 a0_1 a0_2 a0_3 a0_4 a0_5 a0_6 _ _ l0_7 _ _ l0_8 t227 _ ?side1 ?side2 ?side3 ?side4 A2.out).mono ?_);(case side1=>repeat (first|exact (Kd.C_below HR0_7.out HB.out)|(with_reducible refine Kd.C_alloc ?_ _)|(with_reducible refine Kd.C_drewN ?_ _)|(with_reducible refine Kd.C_drew ?_)));(case side2=>exact HC0_7.out);(case side3=>repeat (first|exact (Kd.C_below HR0_8.out HB.out)|(with_reducible refine Kd.C_alloc ?_ _)|(with_reducible refine Kd.C_drewN ?_ _)|(with_reducible refine Kd.C_drew ?_)));(case side4=>exact HC0_8.out);rintro e w5 ⟨rfl,hb⟩;refine ⟨_,rfl,?_⟩;have n0_:=Aside0.mk (blk_below (g:=gb226) (o:=.cells #[.int .i64 a0_0,.int .i64 a0_1,.string a0_2,.string a0_3,.int .i64 a0_4,.string a0_5,.string a0_6,.slice A0_7 l0_7.length c0_7,.slice A0_8 l0_8.length c0_8] 57 (0,0)) (by (with_reducible repeat (first|refine blk_drewN ?_ _|refine blk_drew ?_|refine blk_alloc ?_ _));exact BK226.out) hb);have n1_:=Aside0.mk (below_step (by repeat (first|(with_reducible first|exact HB.out|apply below_alloc|apply pw_below_drewN|apply below_drew1|refine below_set ?_ GE226.out)|exact HB.out)) hb);clear BK226;clear HB;have BK226:=n0_;have HB:=n1_;clear n0_ n1_;(try clear hb);(try clear hb2);(try clear hk);(try clear hi)))
  go_ret
  exact ⟨by first|rfl|(simp [errW_none,errW_some]<;>rfl)|(simp [*,errW_none,errW_some]<;>rfl),by repeat (first|(with_reducible first|exact HB.out|apply below_alloc|apply pw_below_drewN|apply below_drew1|refine below_set ?_ GE226.out)|exact HB.out)⟩
def impl_Mail_empty.f (a0_0:ByteArray) (a0_1:ByteArray) (l0_2:List (S30)) (l0_3:List ByteArray):Option (Bool):=(impl_Addr_null.f a0_0 a0_1).bind fun t217=>(if t217=true then (if (l0_2.length:Int)=0 then (some ((l0_3.length:Int)==0)) else (some false)) else (some false))
set_option maxHeartbeats 8000000 in
set_option maxRecDepth 100000 in
theorem impl_Mail_empty.calls (a0_0:ByteArray) (a0_1:ByteArray) (A0_2:Option Addr) (c0_2:Nat) (l0_2:List (S30)) (A0_3:Option Addr) (c0_3:Nat) (l0_3:List ByteArray) (r:Bool) (w:World) (hr0_2:Kd.C k30 w A0_2 l0_2.length l0_2) (hc0_2:l0_2.length≤c0_2) (hr0_3:Kd.C Kd.string w A0_3 l0_3.length l0_3) (hc0_3:l0_3.length≤c0_3) (h:impl_Mail_empty.f a0_0 a0_1 l0_2 l0_3=some r) :
    Calls Tryd.prog 70 #[.agg #[.string a0_0,.string a0_1,.slice A0_2 l0_2.length c0_2,.slice A0_3 l0_3.length c0_3]] w fun e w'=>e=.returned (.bool r)∧Below w.heap.size w w':=by
  have hu33:=Tryd.underlying33
  have hu30:=Tryd.underlying30
  have HR0_2:=Aside0.mk hr0_2
  have HC0_2:=Aside0.mk hc0_2
  clear hr0_2 hc0_2
  have HR0_3:=Aside0.mk hr0_3
  have HC0_3:=Aside0.mk hc0_3
  clear hr0_3 hc0_3
  have HB:=Aside0.mk (Below.refl w.heap.size w)
  have H:((impl_Addr_null.f a0_0 a0_1).bind fun t217=>(if t217=true then (if (l0_2.length:Int)=0 then (some ((l0_3.length:Int)==0)) else (some false)) else (some false)))=some r:=h
  clear h
  replace H:=Option.bind_eq_some_iff.mp H
  obtain ⟨t217,A20,H⟩:=H
  replace H:(if t217=true then (if (l0_2.length:Int)=0 then (some ((l0_3.length:Int)==0)) else (some false)) else (some false))=some r:=H
  have A2:=Aside0.mk A20
  clear A20
  by_cases c3:t217=true
  · subst c3
    have H1:(if (l0_2.length:Int)=0 then (some ((l0_3.length:Int)==0)) else (some false))=some r:=by rw [if_pos rfl] at H;exact H
    clear H
    have H:=H1
    clear H1
    by_cases c4:(l0_2.length:Int)=0
    · rw [if_pos c4] at H
      have c4b0:((l0_2.length:Int)==0)=true:=beq_iff_eq.mpr c4
      have c4b1:((l0_2.length:Int) != 0)=false:=bne_eq_false_iff_eq.mpr c4
      clear c4
      obtain rfl:=Option.some.inj H
      go_enter Tryd.func70,Tryd.ntmps70
      go_wp2_with (first|((with_reducible refine gate_dst (N:=1) rfl ?_);(try (refine gate_guard (by rfl) ?_;dsimp only));refine box_event ?hg (N:=1) ?hd (cs:=#[.string a0_0,.string a0_1,.slice A0_2 l0_2.length c0_2,.slice A0_3 l0_3.length c0_3]) (t:=33) ?hr ?_;(case hd=>rfl);(case hg=>rfl);(case hr=>first|(go_simp;done)|(go_simp;rfl));intro gb216 hg w5 hbox hb;have n0_:=Aside0.mk (below_step (by repeat (first|(with_reducible first|exact HB.out|apply below_alloc|apply pw_below_drewN|apply below_drew1)|exact HB.out)) hb);have n1_:=Aside0.mk (hbox);have n2_:=Aside0.mk ((by rw [hg];exact (below_size (by repeat (first|(with_reducible first|exact HB.out|apply below_alloc|apply pw_below_drewN|apply below_drew1)|exact HB.out))):w.heap.size≤gb216));have n3_:=Aside0.mk ((by rw [hg];exact (below_size (by repeat (first|(with_reducible first|exact HB.out|apply below_alloc|apply pw_below_drewN|apply below_drew1)|exact HB.out))):w.heap.size≤gb216));clear HB;have HB:=n0_;have BK216:=n1_;have GW216:=n2_;have GE216:=n3_;clear n0_ n1_ n2_ n3_;clear hb hbox hg;have hcz6_0:w5.cell? ⟨gb216,0,none⟩=some (.string a0_0):=(blk_cell BK216.out 0).trans rfl;have hcz6_1:w5.cell? ⟨gb216,1,none⟩=some (.string a0_1):=(blk_cell BK216.out 1).trans rfl;have hcz6_2:w5.cell? ⟨gb216,2,none⟩=some (.slice A0_2 l0_2.length c0_2):=(blk_cell BK216.out 2).trans rfl;have hcz6_3:w5.cell? ⟨gb216,3,none⟩=some (.slice A0_3 l0_3.length c0_3):=(blk_cell BK216.out 3).trans rfl;have hfz6_0:=blk_frozen BK216.out 0;have hfz6_1:=blk_frozen BK216.out 1;have hfz6_2:=blk_frozen BK216.out 2;have hfz6_3:=blk_frozen BK216.out 3)|((with_reducible refine gate_callee (f:=72) rfl ?_);refine goesL_ (some 5) rfl rfl Tryd.func72 (by kernel_rfl) rfl #[.agg #[.string a0_0,.string a0_1]] rfl (by (try simp only [List.map_toArray,List.map_cons,List.map_nil]);first|done|rfl|(simp only [List.length_drop,List.length_take];rfl)) ?_;(with_reducible refine (impl_Addr_null.calls a0_0 a0_1 true _ A2.out).mono ?_);rintro e w7 ⟨rfl,hb⟩;refine ⟨_,rfl,?_⟩;have n0_:=Aside0.mk (blk_below (g:=gb216) (o:=.cells #[.string a0_0,.string a0_1,.slice A0_2 l0_2.length c0_2,.slice A0_3 l0_3.length c0_3] 33 (0,0)) (by (with_reducible repeat (first|refine blk_drewN ?_ _|refine blk_drew ?_|refine blk_alloc ?_ _));exact BK216.out) hb);have n1_:=Aside0.mk (below_step (by repeat (first|(with_reducible first|exact HB.out|apply below_alloc|apply pw_below_drewN|apply below_drew1|refine below_set ?_ GE216.out)|exact HB.out)) hb);clear BK216;clear HB;have BK216:=n0_;have HB:=n1_;clear n0_ n1_;(try clear hb);(try clear hb2);(try clear hk);(try clear hi);have hcz8_0:w7.cell? ⟨gb216,0,none⟩=some (.string a0_0):=(blk_cell BK216.out 0).trans rfl;have hcz8_1:w7.cell? ⟨gb216,1,none⟩=some (.string a0_1):=(blk_cell BK216.out 1).trans rfl;have hcz8_2:w7.cell? ⟨gb216,2,none⟩=some (.slice A0_2 l0_2.length c0_2):=(blk_cell BK216.out 2).trans rfl;have hcz8_3:w7.cell? ⟨gb216,3,none⟩=some (.slice A0_3 l0_3.length c0_3):=(blk_cell BK216.out 3).trans rfl;have hfz8_0:=blk_frozen BK216.out 0;have hfz8_1:=blk_frozen BK216.out 1;have hfz8_2:=blk_frozen BK216.out 2;have hfz8_3:=blk_frozen BK216.out 3))
      go_ret
      exact ⟨by first|rfl|(simp [errW_none,errW_some]<;>rfl)|(simp [*,errW_none,errW_some]<;>rfl),by repeat (first|(with_reducible first|exact HB.out|apply below_alloc|apply pw_below_drewN|apply below_drew1|refine below_set ?_ GE216.out)|exact HB.out)⟩
    · rw [if_neg c4] at H
      have c4b0:((l0_2.length:Int)==0)=false:=beq_eq_false_iff_ne.mpr c4
      have c4b1:((l0_2.length:Int) != 0)=true:=bne_iff_ne.mpr c4
      have c4b2:¬ (l0_2=[]):=fun h_=>c4 (by rw [h_];rfl)
      obtain rfl:=Option.some.inj H
      go_enter Tryd.func70,Tryd.ntmps70
      go_wp2_with (first|((with_reducible refine gate_dst (N:=1) rfl ?_);(try (refine gate_guard (by rfl) ?_;dsimp only));refine box_event ?hg (N:=1) ?hd (cs:=#[.string a0_0,.string a0_1,.slice A0_2 l0_2.length c0_2,.slice A0_3 l0_3.length c0_3]) (t:=33) ?hr ?_;(case hd=>rfl);(case hg=>rfl);(case hr=>first|(go_simp;done)|(go_simp;rfl));intro gb216 hg w9 hbox hb;have n0_:=Aside0.mk (below_step (by repeat (first|(with_reducible first|exact HB.out|apply below_alloc|apply pw_below_drewN|apply below_drew1)|exact HB.out)) hb);have n1_:=Aside0.mk (hbox);have n2_:=Aside0.mk ((by rw [hg];exact (below_size (by repeat (first|(with_reducible first|exact HB.out|apply below_alloc|apply pw_below_drewN|apply below_drew1)|exact HB.out))):w.heap.size≤gb216));have n3_:=Aside0.mk ((by rw [hg];exact (below_size (by repeat (first|(with_reducible first|exact HB.out|apply below_alloc|apply pw_below_drewN|apply below_drew1)|exact HB.out))):w.heap.size≤gb216));clear HB;have HB:=n0_;have BK216:=n1_;have GW216:=n2_;have GE216:=n3_;clear n0_ n1_ n2_ n3_;clear hb hbox hg;have hcz10_0:w9.cell? ⟨gb216,0,none⟩=some (.string a0_0):=(blk_cell BK216.out 0).trans rfl;have hcz10_1:w9.cell? ⟨gb216,1,none⟩=some (.string a0_1):=(blk_cell BK216.out 1).trans rfl;have hcz10_2:w9.cell? ⟨gb216,2,none⟩=some (.slice A0_2 l0_2.length c0_2):=(blk_cell BK216.out 2).trans rfl;have hcz10_3:w9.cell? ⟨gb216,3,none⟩=some (.slice A0_3 l0_3.length c0_3):=(blk_cell BK216.out 3).trans rfl;have hfz10_0:=blk_frozen BK216.out 0;have hfz10_1:=blk_frozen BK216.out 1;have hfz10_2:=blk_frozen BK216.out 2;have hfz10_3:=blk_frozen BK216.out 3)|((with_reducible refine gate_callee (f:=72) rfl ?_);refine goesL_ (some 5) rfl rfl Tryd.func72 (by kernel_rfl) rfl #[.agg #[.string a0_0,.string a0_1]] rfl (by (try simp only [List.map_toArray,List.map_cons,List.map_nil]);first|done|rfl|(simp only [List.length_drop,List.length_take];rfl)) ?_;(with_reducible refine (impl_Addr_null.calls a0_0 a0_1 true _ A2.out).mono ?_);rintro e w11 ⟨rfl,hb⟩;refine ⟨_,rfl,?_⟩;have n0_:=Aside0.mk (blk_below (g:=gb216) (o:=.cells #[.string a0_0,.string a0_1,.slice A0_2 l0_2.length c0_2,.slice A0_3 l0_3.length c0_3] 33 (0,0)) (by (with_reducible repeat (first|refine blk_drewN ?_ _|refine blk_drew ?_|refine blk_alloc ?_ _));exact BK216.out) hb);have n1_:=Aside0.mk (below_step (by repeat (first|(with_reducible first|exact HB.out|apply below_alloc|apply pw_below_drewN|apply below_drew1|refine below_set ?_ GE216.out)|exact HB.out)) hb);clear BK216;clear HB;have BK216:=n0_;have HB:=n1_;clear n0_ n1_;(try clear hb);(try clear hb2);(try clear hk);(try clear hi);have hcz12_0:w11.cell? ⟨gb216,0,none⟩=some (.string a0_0):=(blk_cell BK216.out 0).trans rfl;have hcz12_1:w11.cell? ⟨gb216,1,none⟩=some (.string a0_1):=(blk_cell BK216.out 1).trans rfl;have hcz12_2:w11.cell? ⟨gb216,2,none⟩=some (.slice A0_2 l0_2.length c0_2):=(blk_cell BK216.out 2).trans rfl;have hcz12_3:w11.cell? ⟨gb216,3,none⟩=some (.slice A0_3 l0_3.length c0_3):=(blk_cell BK216.out 3).trans rfl;have hfz12_0:=blk_frozen BK216.out 0;have hfz12_1:=blk_frozen BK216.out 1;have hfz12_2:=blk_frozen BK216.out 2;have hfz12_3:=blk_frozen BK216.out 3))
      go_ret
      exact ⟨by first|rfl|(simp [errW_none,errW_some]<;>rfl)|(simp [*,errW_none,errW_some]<;>rfl),by repeat (first|(with_reducible first|exact HB.out|apply below_alloc|apply pw_below_drewN|apply below_drew1|refine below_set ?_ GE216.out)|exact HB.out)⟩
  · replace c3:=Bool.eq_false_iff.mpr c3
    subst c3
    have H1:(some false)=some r:=by rw [if_neg (show ¬ (false=true) by decide)] at H;exact H
    clear H
    have H:=H1
    clear H1
    obtain rfl:=Option.some.inj H
    go_enter Tryd.func70,Tryd.ntmps70
    go_wp2_with (first|((with_reducible refine gate_dst (N:=1) rfl ?_);(try (refine gate_guard (by rfl) ?_;dsimp only));refine box_event ?hg (N:=1) ?hd (cs:=#[.string a0_0,.string a0_1,.slice A0_2 l0_2.length c0_2,.slice A0_3 l0_3.length c0_3]) (t:=33) ?hr ?_;(case hd=>rfl);(case hg=>rfl);(case hr=>first|(go_simp;done)|(go_simp;rfl));intro gb216 hg w13 hbox hb;have n0_:=Aside0.mk (below_step (by repeat (first|(with_reducible first|exact HB.out|apply below_alloc|apply pw_below_drewN|apply below_drew1)|exact HB.out)) hb);have n1_:=Aside0.mk (hbox);have n2_:=Aside0.mk ((by rw [hg];exact (below_size (by repeat (first|(with_reducible first|exact HB.out|apply below_alloc|apply pw_below_drewN|apply below_drew1)|exact HB.out))):w.heap.size≤gb216));have n3_:=Aside0.mk ((by rw [hg];exact (below_size (by repeat (first|(with_reducible first|exact HB.out|apply below_alloc|apply pw_below_drewN|apply below_drew1)|exact HB.out))):w.heap.size≤gb216));clear HB;have HB:=n0_;have BK216:=n1_;have GW216:=n2_;have GE216:=n3_;clear n0_ n1_ n2_ n3_;clear hb hbox hg;have hcz14_0:w13.cell? ⟨gb216,0,none⟩=some (.string a0_0):=(blk_cell BK216.out 0).trans rfl;have hcz14_1:w13.cell? ⟨gb216,1,none⟩=some (.string a0_1):=(blk_cell BK216.out 1).trans rfl;have hcz14_2:w13.cell? ⟨gb216,2,none⟩=some (.slice A0_2 l0_2.length c0_2):=(blk_cell BK216.out 2).trans rfl;have hcz14_3:w13.cell? ⟨gb216,3,none⟩=some (.slice A0_3 l0_3.length c0_3):=(blk_cell BK216.out 3).trans rfl;have hfz14_0:=blk_frozen BK216.out 0;have hfz14_1:=blk_frozen BK216.out 1;have hfz14_2:=blk_frozen BK216.out 2;have hfz14_3:=blk_frozen BK216.out 3)|((with_reducible refine gate_callee (f:=72) rfl ?_);refine goesL_ (some 5) rfl rfl Tryd.func72 (by kernel_rfl) rfl #[.agg #[.string a0_0,.string a0_1]] rfl (by (try simp only [List.map_toArray,List.map_cons,List.map_nil]);first|done|rfl|(simp only [List.length_drop,List.length_take];rfl)) ?_;(with_reducible refine (impl_Addr_null.calls a0_0 a0_1 false _ A2.out).mono ?_);rintro e w15 ⟨rfl,hb⟩;refine ⟨_,rfl,?_⟩;have n0_:=Aside0.mk (blk_below (g:=gb216) (o:=.cells #[.string a0_0,.string a0_1,.slice A0_2 l0_2.length c0_2,.slice A0_3 l0_3.length c0_3] 33 (0,0)) (by (with_reducible repeat (first|refine blk_drewN ?_ _|refine blk_drew ?_|refine blk_alloc ?_ _));exact BK216.out) hb);have n1_:=Aside0.mk (below_step (by repeat (first|(with_reducible first|exact HB.out|apply below_alloc|apply pw_below_drewN|apply below_drew1|refine below_set ?_ GE216.out)|exact HB.out)) hb);clear BK216;clear HB;have BK216:=n0_;have HB:=n1_;clear n0_ n1_;(try clear hb);(try clear hb2);(try clear hk);(try clear hi)))
    go_ret
    exact ⟨by first|rfl|(simp [errW_none,errW_some]<;>rfl)|(simp [*,errW_none,errW_some]<;>rfl),by repeat (first|(with_reducible first|exact HB.out|apply below_alloc|apply pw_below_drewN|apply below_drew1|refine below_set ?_ GE216.out)|exact HB.out)⟩
def impl_isTime.f (a0:Int):Option (Bool):=(impl_within.f a0 0 9999).bind fun t216=>(some t216)
set_option maxHeartbeats 8000000 in
set_option maxRecDepth 100000 in
theorem impl_isTime.calls (a0:Int) (r:Bool) (w:World) (h:impl_isTime.f a0=some r) :
    Calls Tryd.prog 71 #[.int .i64 a0] w fun e w'=>e=.returned (.bool r)∧Drawn0 w w':=by
  have H:((impl_within.f a0 0 9999).bind fun t216=>(some t216))=some r:=h
  clear h
  replace H:=Option.bind_eq_some_iff.mp H
  obtain ⟨t216,A20,H⟩:=H
  replace H:(some t216)=some r:=H
  have A2:=Aside0.mk A20
  clear A20
  obtain rfl:=Option.some.inj H
  go_enter Tryd.func71,Tryd.ntmps71
  go_wp2_with (first|((with_reducible refine gate_callee (f:=49) rfl ?_);refine goesL_ (some 4) rfl rfl Tryd.func49 (by kernel_rfl) rfl #[.int .i64 a0,.int .i64 0,.int .i64 9999] rfl (by (try simp only [List.map_toArray,List.map_cons,List.map_nil]);first|done|rfl|(simp only [List.length_drop,List.length_take];rfl)) ?_;(with_reducible refine (impl_within.calls a0 0 9999 t216 _ A2.out).mono ?_);rintro e w' ⟨rfl,⟨nd,rfl⟩⟩;refine ⟨_,rfl,?_⟩))
  go_ret
  exact ⟨by first|rfl|(simp;done)|(simp [*];done),by repeat (first|exact Drawn0.refl _|apply Drawn0.step)⟩
end Go.Proofs.YthkibaldmjfmmaaDoor.Q
