/- Of a text of ours what this claim needs. -/
import Derived.Test.YthkibaldmjfmmaaDoorZzFnExactConfTakesWQ0
import Derived.Test.YthkibaldmjfmmaaDoorZzFnExactConfTakesWQ2
import Derived.Test.YthkibaldmjfmmaaDoorZzFnExactConfTakesWQ14
import Derived.Test.YthkibaldmjfmmaaDoorZzFnExactConfTakesWQ21
import Derived.Test.YthkibaldmjfmmaaDoorZzFnExactConfTakesWQ23
import Derived.Test.YthkibaldmjfmmaaDoorZzFnExactConfTakesWHSplit
namespace Go.Proofs.YthkibaldmjfmmaaDoor.Q
open Go.RowKit Go.Proofs.YthkibaldmjfmmaaDoorW.PrintWords Go.Proofs.YthkibaldmjfmmaaDoorW.PrintLast Go.Proofs.YthkibaldmjfmmaaDoorW.PrintMore
attribute [local go_sem] max2_int min2_int max_two min_two max_three min_three max_four min_four
set_option linter.unusedVariables false
set_option linter.unusedSimpArgs false
def laws_FnExactConfTakes.f (k:Nat) (a0_0:ByteArray) (l0_1:List ByteArray) (l0_2:List (S116)) (a1_0:ByteArray) (a1_1:ByteArray):Option (Bool):=(laws_szConf.f k a0_0 l0_1 l0_2 1048576).bind fun t185=>(if t185 < 0 then (some true) else ((laws_szAddr.f a1_0 a1_1 t185).bind fun t186=>(if t186 < 0 then (some true) else ((laws_toConf.f k a0_0 l0_1 l0_2).bind fun bt187=>((laws_toAddr.f a1_0 a1_1).bind fun bt194=>((spec_ConfTakes.f k bt187.1 bt187.2.1 bt187.2.2 bt194.1 bt194.2).bind fun t196=>((laws_toConf.f k a0_0 l0_1 l0_2).bind fun bt197=>((laws_toAddr.f a1_0 a1_1).bind fun bt205=>((impl_ConfTakes.f k bt197.1 bt197.2.1 bt197.2.2 bt205.1 bt205.2).bind fun t207=>(if (t207 != t196)=true then (some false) else ((laws_toConf.f k a0_0 l0_1 l0_2).bind fun bt208=>((laws_eqConf.f k bt197.1 bt197.2.1 bt197.2.2 bt208.1 bt208.2.1 bt208.2.2).bind fun t215=>(if t215=true then (some true) else (some false))))))))))))))
set_option maxHeartbeats 8000000 in
set_option maxRecDepth 100000 in
theorem laws_FnExactConfTakes.calls (k:Nat) (a0_0:ByteArray) (A0_1:Option Addr) (c0_1:Nat) (l0_1:List ByteArray) (A0_2:Option Addr) (c0_2:Nat) (l0_2:List (S116)) (a1_0:ByteArray) (a1_1:ByteArray) (r:Bool) (w:World) (hr0_1:Kd.C Kd.string w A0_1 l0_1.length l0_1) (hc0_1:l0_1.length≤c0_1) (hr0_2:Kd.C k116 w A0_2 l0_2.length l0_2) (hc0_2:l0_2.length≤c0_2) (hG:GOK w) (h:laws_FnExactConfTakes.f k a0_0 l0_1 l0_2 a1_0 a1_1=some r) :
    Calls Tryd.prog 5 #[.agg #[.string a0_0,.slice A0_1 l0_1.length c0_1,.slice A0_2 l0_2.length c0_2],.agg #[.string a1_0,.string a1_1]] w fun e w'=>e=.returned (.bool r)∧Below w.heap.size w w':=by
  have hu39:=Tryd.underlying39
  have hu23:=Tryd.underlying23
  have hu44:=Tryd.underlying44
  have HR0_1:=Aside0.mk hr0_1
  have HC0_1:=Aside0.mk hc0_1
  clear hr0_1 hc0_1
  have HR0_2:=Aside0.mk hr0_2
  have HC0_2:=Aside0.mk hc0_2
  clear hr0_2 hc0_2
  have HG:=Aside0.mk hG
  clear hG
  have HB:=Aside0.mk (Below.refl w.heap.size w)
  have H:((laws_szConf.f k a0_0 l0_1 l0_2 1048576).bind fun t185=>(if t185 < 0 then (some true) else ((laws_szAddr.f a1_0 a1_1 t185).bind fun t186=>(if t186 < 0 then (some true) else ((laws_toConf.f k a0_0 l0_1 l0_2).bind fun bt187=>((laws_toAddr.f a1_0 a1_1).bind fun bt194=>((spec_ConfTakes.f k bt187.1 bt187.2.1 bt187.2.2 bt194.1 bt194.2).bind fun t196=>((laws_toConf.f k a0_0 l0_1 l0_2).bind fun bt197=>((laws_toAddr.f a1_0 a1_1).bind fun bt205=>((impl_ConfTakes.f k bt197.1 bt197.2.1 bt197.2.2 bt205.1 bt205.2).bind fun t207=>(if (t207 != t196)=true then (some false) else ((laws_toConf.f k a0_0 l0_1 l0_2).bind fun bt208=>((laws_eqConf.f k bt197.1 bt197.2.1 bt197.2.2 bt208.1 bt208.2.1 bt208.2.2).bind fun t215=>(if t215=true then (some true) else (some false)))))))))))))))=some r:=h
  clear h
  replace H:=Option.bind_eq_some_iff.mp H
  obtain ⟨t185,A30,H⟩:=H
  replace H:(if t185 < 0 then (some true) else ((laws_szAddr.f a1_0 a1_1 t185).bind fun t186=>(if t186 < 0 then (some true) else ((laws_toConf.f k a0_0 l0_1 l0_2).bind fun bt187=>((laws_toAddr.f a1_0 a1_1).bind fun bt194=>((spec_ConfTakes.f k bt187.1 bt187.2.1 bt187.2.2 bt194.1 bt194.2).bind fun t196=>((laws_toConf.f k a0_0 l0_1 l0_2).bind fun bt197=>((laws_toAddr.f a1_0 a1_1).bind fun bt205=>((impl_ConfTakes.f k bt197.1 bt197.2.1 bt197.2.2 bt205.1 bt205.2).bind fun t207=>(if (t207 != t196)=true then (some false) else ((laws_toConf.f k a0_0 l0_1 l0_2).bind fun bt208=>((laws_eqConf.f k bt197.1 bt197.2.1 bt197.2.2 bt208.1 bt208.2.1 bt208.2.2).bind fun t215=>(if t215=true then (some true) else (some false))))))))))))))=some r:=H
  have A3:=Aside0.mk A30
  clear A30
  by_cases c4:t185 < 0
  · rw [if_pos c4] at H
    have c4b0:decide (t185 < 0)=true:=decide_eq_true c4
    clear c4
    obtain rfl:=Option.some.inj H
    go_enter Tryd.func5,Tryd.ntmps5
    go_wp2_with (first|((with_reducible refine gate_dst (N:=2) rfl ?_);refine box_event ?hg (N:=2) ?hd (cs:=#[.string a0_0,.slice A0_1 l0_1.length c0_1,.slice A0_2 l0_2.length c0_2]) (t:=39) ?hr ?_;(case hd=>rfl);(case hg=>rfl);(case hr=>first|(go_simp;done)|(go_simp;rfl));intro gb183 hg w5 hbox hb;have n0_:=Aside0.mk (below_step (by repeat (first|(with_reducible first|exact HB.out|apply below_alloc|apply pw_below_drewN|apply below_drew1)|exact HB.out)) hb);have n1_:=Aside0.mk (hbox);have n2_:=Aside0.mk ((by rw [hg];exact (below_size (by repeat (first|(with_reducible first|exact HB.out|apply below_alloc|apply pw_below_drewN|apply below_drew1)|exact HB.out))):w.heap.size≤gb183));have n3_:=Aside0.mk ((by rw [hg];exact (below_size (by repeat (first|(with_reducible first|exact HB.out|apply below_alloc|apply pw_below_drewN|apply below_drew1)|exact HB.out))):w.heap.size≤gb183));clear HB;have HB:=n0_;have BK183:=n1_;have GW183:=n2_;have GE183:=n3_;clear n0_ n1_ n2_ n3_;clear hb hbox hg)|((with_reducible refine gate_dst (N:=3) rfl ?_);refine box_event ?hg (N:=3) ?hd (cs:=#[.string a1_0,.string a1_1]) (t:=23) ?hr ?_;(case hd=>rfl);(case hg=>rfl);(case hr=>first|(go_simp;done)|(go_simp;rfl));intro gb184 hg w6 hbox hb;have n0_:=Aside0.mk (blk_below (g:=gb183) (o:=.cells #[.string a0_0,.slice A0_1 l0_1.length c0_1,.slice A0_2 l0_2.length c0_2] 39 (0,0)) (by (with_reducible repeat (first|refine blk_drewN ?_ _|refine blk_drew ?_|refine blk_alloc ?_ _));exact BK183.out) hb);have n1_:=Aside0.mk (below_step (by repeat (first|(with_reducible first|exact HB.out|apply below_alloc|apply pw_below_drewN|apply below_drew1|refine below_set ?_ GE183.out)|exact HB.out)) hb);have n2_:=Aside0.mk (hbox);have n3_:=Aside0.mk ((by rw [hg];exact (below_size (by repeat (first|(with_reducible first|exact HB.out|apply below_alloc|apply pw_below_drewN|apply below_drew1|refine below_set ?_ GE183.out)|exact HB.out))):w.heap.size≤gb184));have n4_:=Aside0.mk ((by rw [hg];exact (below_size (by repeat (first|(with_reducible first|exact HB.out|apply below_alloc|apply pw_below_drewN|apply below_drew1|refine below_set ?_ GE183.out)|exact HB.out))):w.heap.size≤gb184));have n5_:=Aside0.mk ((by rw [hg];exact Nat.ne_of_lt (blk_lt (g:=gb183) (o:=.cells #[.string a0_0,.slice A0_1 l0_1.length c0_1,.slice A0_2 l0_2.length c0_2] 39 (0,0)) (by (with_reducible repeat (first|refine blk_drewN ?_ _|refine blk_drew ?_|refine blk_alloc ?_ _));exact BK183.out)):gb183≠gb184));have n6_:=Aside0.mk ((by rw [hg];exact Nat.ne_of_gt (blk_lt (g:=gb183) (o:=.cells #[.string a0_0,.slice A0_1 l0_1.length c0_1,.slice A0_2 l0_2.length c0_2] 39 (0,0)) (by (with_reducible repeat (first|refine blk_drewN ?_ _|refine blk_drew ?_|refine blk_alloc ?_ _));exact BK183.out)):gb184≠gb183));clear BK183;clear HB;have BK183:=n0_;have HB:=n1_;have BK184:=n2_;have GW184:=n3_;have GE184:=n4_;have NB183_184:=n5_;have NB184_183:=n6_;clear n0_ n1_ n2_ n3_ n4_ n5_ n6_;clear hb hbox hg;have hnb7:=NB183_184.out;have hnc7:=NB184_183.out;have hcz8_0:w6.cell? ⟨gb183,0,none⟩=some (.string a0_0):=(blk_cell BK183.out 0).trans rfl;have hcz8_1:w6.cell? ⟨gb183,1,none⟩=some (.slice A0_1 l0_1.length c0_1):=(blk_cell BK183.out 1).trans rfl;have hcz8_2:w6.cell? ⟨gb183,2,none⟩=some (.slice A0_2 l0_2.length c0_2):=(blk_cell BK183.out 2).trans rfl;have hfz8_0:=blk_frozen BK183.out 0;have hfz8_1:=blk_frozen BK183.out 1;have hfz8_2:=blk_frozen BK183.out 2)|((with_reducible refine gate_callee (f:=15) rfl ?_);refine goesL_ (some 11) rfl rfl Tryd.func15 (by kernel_rfl) rfl #[.agg #[.string a0_0,.slice A0_1 l0_1.length c0_1,.slice A0_2 l0_2.length c0_2],.int .i64 1048576] rfl (by (try simp only [List.map_toArray,List.map_cons,List.map_nil]);first|done|rfl|(simp only [List.length_drop,List.length_take];rfl)) ?_;(with_reducible refine (laws_szConf.calls k a0_0 _ _ l0_1 _ _ l0_2 1048576 t185 _ ?side1 ?side2 ?side3 ?side4 A3.out).mono ?_);(case side1=>repeat (first|exact (Kd.C_below HR0_1.out HB.out)|(with_reducible refine Kd.C_alloc ?_ _)|(with_reducible refine Kd.C_drewN ?_ _)|(with_reducible refine Kd.C_drew ?_)));(case side2=>exact HC0_1.out);(case side3=>repeat (first|exact (Kd.C_below HR0_2.out HB.out)|(with_reducible refine Kd.C_alloc ?_ _)|(with_reducible refine Kd.C_drewN ?_ _)|(with_reducible refine Kd.C_drew ?_)));(case side4=>exact HC0_2.out);rintro e w9 ⟨rfl,hb⟩;refine ⟨_,rfl,?_⟩;have n0_:=Aside0.mk (blk_below (g:=gb183) (o:=.cells #[.string a0_0,.slice A0_1 l0_1.length c0_1,.slice A0_2 l0_2.length c0_2] 39 (0,0)) (by (with_reducible repeat (first|refine blk_drewN ?_ _|refine blk_drew ?_|refine blk_alloc ?_ _));exact BK183.out) hb);have n1_:=Aside0.mk (blk_below (g:=gb184) (o:=.cells #[.string a1_0,.string a1_1] 23 (0,0)) (by (with_reducible repeat (first|refine blk_drewN ?_ _|refine blk_drew ?_|refine blk_alloc ?_ _));exact BK184.out) hb);have n2_:=Aside0.mk (below_step (by repeat (first|(with_reducible first|exact HB.out|apply below_alloc|apply pw_below_drewN|apply below_drew1|refine below_set ?_ GE183.out|refine below_set ?_ GE184.out)|exact HB.out)) hb);clear BK183;clear BK184;clear HB;have BK183:=n0_;have BK184:=n1_;have HB:=n2_;clear n0_ n1_ n2_;(try clear hb);(try clear hb2);(try clear hk);(try clear hi)))
    go_ret
    exact ⟨by first|rfl|(simp [errW_none,errW_some]<;>rfl)|(simp [*,errW_none,errW_some]<;>rfl),by repeat (first|(with_reducible first|exact HB.out|apply below_alloc|apply pw_below_drewN|apply below_drew1|refine below_set ?_ GE183.out|refine below_set ?_ GE184.out)|exact HB.out)⟩
  · rw [if_neg c4] at H
    have c4b0:decide (t185 < 0)=false:=decide_eq_false c4
    clear c4
    replace H:=Option.bind_eq_some_iff.mp H
    obtain ⟨t186,A100,H⟩:=H
    replace H:(if t186 < 0 then (some true) else ((laws_toConf.f k a0_0 l0_1 l0_2).bind fun bt187=>((laws_toAddr.f a1_0 a1_1).bind fun bt194=>((spec_ConfTakes.f k bt187.1 bt187.2.1 bt187.2.2 bt194.1 bt194.2).bind fun t196=>((laws_toConf.f k a0_0 l0_1 l0_2).bind fun bt197=>((laws_toAddr.f a1_0 a1_1).bind fun bt205=>((impl_ConfTakes.f k bt197.1 bt197.2.1 bt197.2.2 bt205.1 bt205.2).bind fun t207=>(if (t207 != t196)=true then (some false) else ((laws_toConf.f k a0_0 l0_1 l0_2).bind fun bt208=>((laws_eqConf.f k bt197.1 bt197.2.1 bt197.2.2 bt208.1 bt208.2.1 bt208.2.2).bind fun t215=>(if t215=true then (some true) else (some false))))))))))))=some r:=H
    have A10:=Aside0.mk A100
    clear A100
    by_cases c11:t186 < 0
    · rw [if_pos c11] at H
      have c11b0:decide (t186 < 0)=true:=decide_eq_true c11
      clear c11
      obtain rfl:=Option.some.inj H
      go_enter Tryd.func5,Tryd.ntmps5
      go_wp2_with (first|((with_reducible refine gate_dst (N:=2) rfl ?_);refine box_event ?hg (N:=2) ?hd (cs:=#[.string a0_0,.slice A0_1 l0_1.length c0_1,.slice A0_2 l0_2.length c0_2]) (t:=39) ?hr ?_;(case hd=>rfl);(case hg=>rfl);(case hr=>first|(go_simp;done)|(go_simp;rfl));intro gb183 hg w12 hbox hb;have n0_:=Aside0.mk (below_step (by repeat (first|(with_reducible first|exact HB.out|apply below_alloc|apply pw_below_drewN|apply below_drew1)|exact HB.out)) hb);have n1_:=Aside0.mk (hbox);have n2_:=Aside0.mk ((by rw [hg];exact (below_size (by repeat (first|(with_reducible first|exact HB.out|apply below_alloc|apply pw_below_drewN|apply below_drew1)|exact HB.out))):w.heap.size≤gb183));have n3_:=Aside0.mk ((by rw [hg];exact (below_size (by repeat (first|(with_reducible first|exact HB.out|apply below_alloc|apply pw_below_drewN|apply below_drew1)|exact HB.out))):w.heap.size≤gb183));clear HB;have HB:=n0_;have BK183:=n1_;have GW183:=n2_;have GE183:=n3_;clear n0_ n1_ n2_ n3_;clear hb hbox hg)|((with_reducible refine gate_dst (N:=3) rfl ?_);refine box_event ?hg (N:=3) ?hd (cs:=#[.string a1_0,.string a1_1]) (t:=23) ?hr ?_;(case hd=>rfl);(case hg=>rfl);(case hr=>first|(go_simp;done)|(go_simp;rfl));intro gb184 hg w13 hbox hb;have n0_:=Aside0.mk (blk_below (g:=gb183) (o:=.cells #[.string a0_0,.slice A0_1 l0_1.length c0_1,.slice A0_2 l0_2.length c0_2] 39 (0,0)) (by (with_reducible repeat (first|refine blk_drewN ?_ _|refine blk_drew ?_|refine blk_alloc ?_ _));exact BK183.out) hb);have n1_:=Aside0.mk (below_step (by repeat (first|(with_reducible first|exact HB.out|apply below_alloc|apply pw_below_drewN|apply below_drew1|refine below_set ?_ GE183.out)|exact HB.out)) hb);have n2_:=Aside0.mk (hbox);have n3_:=Aside0.mk ((by rw [hg];exact (below_size (by repeat (first|(with_reducible first|exact HB.out|apply below_alloc|apply pw_below_drewN|apply below_drew1|refine below_set ?_ GE183.out)|exact HB.out))):w.heap.size≤gb184));have n4_:=Aside0.mk ((by rw [hg];exact (below_size (by repeat (first|(with_reducible first|exact HB.out|apply below_alloc|apply pw_below_drewN|apply below_drew1|refine below_set ?_ GE183.out)|exact HB.out))):w.heap.size≤gb184));have n5_:=Aside0.mk ((by rw [hg];exact Nat.ne_of_lt (blk_lt (g:=gb183) (o:=.cells #[.string a0_0,.slice A0_1 l0_1.length c0_1,.slice A0_2 l0_2.length c0_2] 39 (0,0)) (by (with_reducible repeat (first|refine blk_drewN ?_ _|refine blk_drew ?_|refine blk_alloc ?_ _));exact BK183.out)):gb183≠gb184));have n6_:=Aside0.mk ((by rw [hg];exact Nat.ne_of_gt (blk_lt (g:=gb183) (o:=.cells #[.string a0_0,.slice A0_1 l0_1.length c0_1,.slice A0_2 l0_2.length c0_2] 39 (0,0)) (by (with_reducible repeat (first|refine blk_drewN ?_ _|refine blk_drew ?_|refine blk_alloc ?_ _));exact BK183.out)):gb184≠gb183));clear BK183;clear HB;have BK183:=n0_;have HB:=n1_;have BK184:=n2_;have GW184:=n3_;have GE184:=n4_;have NB183_184:=n5_;have NB184_183:=n6_;clear n0_ n1_ n2_ n3_ n4_ n5_ n6_;clear hb hbox hg;have hnb14:=NB183_184.out;have hnc14:=NB184_183.out;have hcz15_0:w13.cell? ⟨gb183,0,none⟩=some (.string a0_0):=(blk_cell BK183.out 0).trans rfl;have hcz15_1:w13.cell? ⟨gb183,1,none⟩=some (.slice A0_1 l0_1.length c0_1):=(blk_cell BK183.out 1).trans rfl;have hcz15_2:w13.cell? ⟨gb183,2,none⟩=some (.slice A0_2 l0_2.length c0_2):=(blk_cell BK183.out 2).trans rfl;have hfz15_0:=blk_frozen BK183.out 0;have hfz15_1:=blk_frozen BK183.out 1;have hfz15_2:=blk_frozen BK183.out 2)|((with_reducible refine gate_callee (f:=15) rfl ?_);refine goesL_ (some 11) rfl rfl Tryd.func15 (by kernel_rfl) rfl #[.agg #[.string a0_0,.slice A0_1 l0_1.length c0_1,.slice A0_2 l0_2.length c0_2],.int .i64 1048576] rfl (by (try simp only [List.map_toArray,List.map_cons,List.map_nil]);first|done|rfl|(simp only [List.length_drop,List.length_take];rfl)) ?_;(with_reducible refine (laws_szConf.calls k a0_0 _ _ l0_1 _ _ l0_2 1048576 t185 _ ?side1 ?side2 ?side3 ?side4 A3.out).mono ?_);(case side1=>repeat (first|exact (Kd.C_below HR0_1.out HB.out)|(with_reducible refine Kd.C_alloc ?_ _)|(with_reducible refine Kd.C_drewN ?_ _)|(with_reducible refine Kd.C_drew ?_)));(case side2=>exact HC0_1.out);(case side3=>repeat (first|exact (Kd.C_below HR0_2.out HB.out)|(with_reducible refine Kd.C_alloc ?_ _)|(with_reducible refine Kd.C_drewN ?_ _)|(with_reducible refine Kd.C_drew ?_)));(case side4=>exact HC0_2.out);rintro e w16 ⟨rfl,hb⟩;refine ⟨_,rfl,?_⟩;have n0_:=Aside0.mk (blk_below (g:=gb183) (o:=.cells #[.string a0_0,.slice A0_1 l0_1.length c0_1,.slice A0_2 l0_2.length c0_2] 39 (0,0)) (by (with_reducible repeat (first|refine blk_drewN ?_ _|refine blk_drew ?_|refine blk_alloc ?_ _));exact BK183.out) hb);have n1_:=Aside0.mk (blk_below (g:=gb184) (o:=.cells #[.string a1_0,.string a1_1] 23 (0,0)) (by (with_reducible repeat (first|refine blk_drewN ?_ _|refine blk_drew ?_|refine blk_alloc ?_ _));exact BK184.out) hb);have n2_:=Aside0.mk (below_step (by repeat (first|(with_reducible first|exact HB.out|apply below_alloc|apply pw_below_drewN|apply below_drew1|refine below_set ?_ GE183.out|refine below_set ?_ GE184.out)|exact HB.out)) hb);clear BK183;clear BK184;clear HB;have BK183:=n0_;have BK184:=n1_;have HB:=n2_;clear n0_ n1_ n2_;(try clear hb);(try clear hb2);(try clear hk);(try clear hi);have hcz17_0:w16.cell? ⟨gb184,0,none⟩=some (.string a1_0):=(blk_cell BK184.out 0).trans rfl;have hcz17_1:w16.cell? ⟨gb184,1,none⟩=some (.string a1_1):=(blk_cell BK184.out 1).trans rfl;have hfz17_0:=blk_frozen BK184.out 0;have hfz17_1:=blk_frozen BK184.out 1)|((with_reducible refine gate_callee (f:=20) rfl ?_);refine goesL_ (some 16) rfl rfl Tryd.func20 (by kernel_rfl) rfl #[.agg #[.string a1_0,.string a1_1],.int .i64 t185] rfl (by (try simp only [List.map_toArray,List.map_cons,List.map_nil]);first|done|rfl|(simp only [List.length_drop,List.length_take];rfl)) ?_;(with_reducible refine (laws_szAddr.calls a1_0 a1_1 t185 t186 _ A10.out).mono ?_);rintro e w18 ⟨rfl,hb⟩;refine ⟨_,rfl,?_⟩;have n0_:=Aside0.mk (blk_below (g:=gb183) (o:=.cells #[.string a0_0,.slice A0_1 l0_1.length c0_1,.slice A0_2 l0_2.length c0_2] 39 (0,0)) (by (with_reducible repeat (first|refine blk_drewN ?_ _|refine blk_drew ?_|refine blk_alloc ?_ _));exact BK183.out) hb);have n1_:=Aside0.mk (blk_below (g:=gb184) (o:=.cells #[.string a1_0,.string a1_1] 23 (0,0)) (by (with_reducible repeat (first|refine blk_drewN ?_ _|refine blk_drew ?_|refine blk_alloc ?_ _));exact BK184.out) hb);have n2_:=Aside0.mk (below_step (by repeat (first|(with_reducible first|exact HB.out|apply below_alloc|apply pw_below_drewN|apply below_drew1|refine below_set ?_ GE183.out|refine below_set ?_ GE184.out)|exact HB.out)) hb);clear BK183;clear BK184;clear HB;have BK183:=n0_;have BK184:=n1_;have HB:=n2_;clear n0_ n1_ n2_;(try clear hb);(try clear hb2);(try clear hk);(try clear hi)))
      go_ret
      exact ⟨by first|rfl|(simp [errW_none,errW_some]<;>rfl)|(simp [*,errW_none,errW_some]<;>rfl),by repeat (first|(with_reducible first|exact HB.out|apply below_alloc|apply pw_below_drewN|apply below_drew1|refine below_set ?_ GE183.out|refine below_set ?_ GE184.out)|exact HB.out)⟩
    · rw [if_neg c11] at H
      have c11b0:decide (t186 < 0)=false:=decide_eq_false c11
      clear c11
      replace H:=Option.bind_eq_some_iff.mp H
      obtain ⟨⟨t187,t188,t191⟩,A190,H⟩:=H
      replace H:((laws_toAddr.f a1_0 a1_1).bind fun bt194=>((spec_ConfTakes.f k t187 t188 t191 bt194.1 bt194.2).bind fun t196=>((laws_toConf.f k a0_0 l0_1 l0_2).bind fun bt197=>((laws_toAddr.f a1_0 a1_1).bind fun bt205=>((impl_ConfTakes.f k bt197.1 bt197.2.1 bt197.2.2 bt205.1 bt205.2).bind fun t207=>(if (t207 != t196)=true then (some false) else ((laws_toConf.f k a0_0 l0_1 l0_2).bind fun bt208=>((laws_eqConf.f k bt197.1 bt197.2.1 bt197.2.2 bt208.1 bt208.2.1 bt208.2.2).bind fun t215=>(if t215=true then (some true) else (some false))))))))))=some r:=H
      have A19:=Aside0.mk A190
      clear A190
      replace H:=Option.bind_eq_some_iff.mp H
      obtain ⟨⟨t194,t195⟩,A200,H⟩:=H
      replace H:((spec_ConfTakes.f k t187 t188 t191 t194 t195).bind fun t196=>((laws_toConf.f k a0_0 l0_1 l0_2).bind fun bt197=>((laws_toAddr.f a1_0 a1_1).bind fun bt205=>((impl_ConfTakes.f k bt197.1 bt197.2.1 bt197.2.2 bt205.1 bt205.2).bind fun t207=>(if (t207 != t196)=true then (some false) else ((laws_toConf.f k a0_0 l0_1 l0_2).bind fun bt208=>((laws_eqConf.f k bt197.1 bt197.2.1 bt197.2.2 bt208.1 bt208.2.1 bt208.2.2).bind fun t215=>(if t215=true then (some true) else (some false)))))))))=some r:=H
      have A20:=Aside0.mk A200
      clear A200
      replace H:=Option.bind_eq_some_iff.mp H
      obtain ⟨t196,A210,H⟩:=H
      replace H:((laws_toConf.f k a0_0 l0_1 l0_2).bind fun bt197=>((laws_toAddr.f a1_0 a1_1).bind fun bt205=>((impl_ConfTakes.f k bt197.1 bt197.2.1 bt197.2.2 bt205.1 bt205.2).bind fun t207=>(if (t207 != t196)=true then (some false) else ((laws_toConf.f k a0_0 l0_1 l0_2).bind fun bt208=>((laws_eqConf.f k bt197.1 bt197.2.1 bt197.2.2 bt208.1 bt208.2.1 bt208.2.2).bind fun t215=>(if t215=true then (some true) else (some false))))))))=some r:=H
      have A21:=Aside0.mk A210
      clear A210
      replace H:=Option.bind_eq_some_iff.mp H
      obtain ⟨⟨t197,t198,t201⟩,A220,H⟩:=H
      replace H:((laws_toAddr.f a1_0 a1_1).bind fun bt205=>((impl_ConfTakes.f k t197 t198 t201 bt205.1 bt205.2).bind fun t207=>(if (t207 != t196)=true then (some false) else ((laws_toConf.f k a0_0 l0_1 l0_2).bind fun bt208=>((laws_eqConf.f k t197 t198 t201 bt208.1 bt208.2.1 bt208.2.2).bind fun t215=>(if t215=true then (some true) else (some false)))))))=some r:=H
      have A22:=Aside0.mk A220
      clear A220
      replace H:=Option.bind_eq_some_iff.mp H
      obtain ⟨⟨t205,t206⟩,A230,H⟩:=H
      replace H:((impl_ConfTakes.f k t197 t198 t201 t205 t206).bind fun t207=>(if (t207 != t196)=true then (some false) else ((laws_toConf.f k a0_0 l0_1 l0_2).bind fun bt208=>((laws_eqConf.f k t197 t198 t201 bt208.1 bt208.2.1 bt208.2.2).bind fun t215=>(if t215=true then (some true) else (some false))))))=some r:=H
      have A23:=Aside0.mk A230
      clear A230
      replace H:=Option.bind_eq_some_iff.mp H
      obtain ⟨t207,A240,H⟩:=H
      replace H:(if (t207 != t196)=true then (some false) else ((laws_toConf.f k a0_0 l0_1 l0_2).bind fun bt208=>((laws_eqConf.f k t197 t198 t201 bt208.1 bt208.2.1 bt208.2.2).bind fun t215=>(if t215=true then (some true) else (some false)))))=some r:=H
      have A24:=Aside0.mk A240
      clear A240
      by_cases c25:(t207 != t196)=true
      · rw [if_pos c25] at H
        have c25b0:(t207 != t196)=true:=c25
        (try (have c25b1:decide (t207=t196)=false:=by simpa using c25))
        (try (have c25b2:(t207==t196)=false:=by simpa using c25))
        (try (have c25b3:¬ (t207=t196):=by simpa using c25))
        clear c25
        obtain rfl:=Option.some.inj H
        go_enter Tryd.func5,Tryd.ntmps5
        try go_wp2_with (first|((with_reducible refine gate_dst (N:=2) rfl ?_);refine box_event ?hg (N:=2) ?hd (cs:=#[.string a0_0,.slice A0_1 l0_1.length c0_1,.slice A0_2 l0_2.length c0_2]) (t:=39) ?hr ?_;(case hd=>rfl);(case hg=>rfl);(case hr=>first|(go_simp;done)|(go_simp;rfl));intro gb183 hg w26 hbox hb;have n0_:=Aside0.mk (below_step (by repeat (first|(with_reducible first|exact HB.out|apply below_alloc|apply pw_below_drewN|apply below_drew1)|exact HB.out)) hb);have n1_:=Aside0.mk (hbox);have n2_:=Aside0.mk ((by rw [hg];exact (below_size (by repeat (first|(with_reducible first|exact HB.out|apply below_alloc|apply pw_below_drewN|apply below_drew1)|exact HB.out))):w.heap.size≤gb183));have n3_:=Aside0.mk ((by rw [hg];exact (below_size (by repeat (first|(with_reducible first|exact HB.out|apply below_alloc|apply pw_below_drewN|apply below_drew1)|exact HB.out))):w.heap.size≤gb183));clear HB;have HB:=n0_;have BK183:=n1_;have GW183:=n2_;have GE183:=n3_;clear n0_ n1_ n2_ n3_;clear hb hbox hg)|((with_reducible refine gate_dst (N:=3) rfl ?_);refine box_event ?hg (N:=3) ?hd (cs:=#[.string a1_0,.string a1_1]) (t:=23) ?hr ?_;(case hd=>rfl);(case hg=>rfl);(case hr=>first|(go_simp;done)|(go_simp;rfl));intro gb184 hg w27 hbox hb;have n0_:=Aside0.mk (blk_below (g:=gb183) (o:=.cells #[.string a0_0,.slice A0_1 l0_1.length c0_1,.slice A0_2 l0_2.length c0_2] 39 (0,0)) (by (with_reducible repeat (first|refine blk_drewN ?_ _|refine blk_drew ?_|refine blk_alloc ?_ _));exact BK183.out) hb);have n1_:=Aside0.mk (below_step (by repeat (first|(with_reducible first|exact HB.out|apply below_alloc|apply pw_below_drewN|apply below_drew1|refine below_set ?_ GE183.out)|exact HB.out)) hb);have n2_:=Aside0.mk (hbox);have n3_:=Aside0.mk ((by rw [hg];exact (below_size (by repeat (first|(with_reducible first|exact HB.out|apply below_alloc|apply pw_below_drewN|apply below_drew1|refine below_set ?_ GE183.out)|exact HB.out))):w.heap.size≤gb184));have n4_:=Aside0.mk ((by rw [hg];exact (below_size (by repeat (first|(with_reducible first|exact HB.out|apply below_alloc|apply pw_below_drewN|apply below_drew1|refine below_set ?_ GE183.out)|exact HB.out))):w.heap.size≤gb184));have n5_:=Aside0.mk ((by rw [hg];exact Nat.ne_of_lt (blk_lt (g:=gb183) (o:=.cells #[.string a0_0,.slice A0_1 l0_1.length c0_1,.slice A0_2 l0_2.length c0_2] 39 (0,0)) (by (with_reducible repeat (first|refine blk_drewN ?_ _|refine blk_drew ?_|refine blk_alloc ?_ _));exact BK183.out)):gb183≠gb184));have n6_:=Aside0.mk ((by rw [hg];exact Nat.ne_of_gt (blk_lt (g:=gb183) (o:=.cells #[.string a0_0,.slice A0_1 l0_1.length c0_1,.slice A0_2 l0_2.length c0_2] 39 (0,0)) (by (with_reducible repeat (first|refine blk_drewN ?_ _|refine blk_drew ?_|refine blk_alloc ?_ _));exact BK183.out)):gb184≠gb183));clear BK183;clear HB;have BK183:=n0_;have HB:=n1_;have BK184:=n2_;have GW184:=n3_;have GE184:=n4_;have NB183_184:=n5_;have NB184_183:=n6_;clear n0_ n1_ n2_ n3_ n4_ n5_ n6_;clear hb hbox hg;have hnb28:=NB183_184.out;have hnc28:=NB184_183.out;have hcz29_0:w27.cell? ⟨gb183,0,none⟩=some (.string a0_0):=(blk_cell BK183.out 0).trans rfl;have hcz29_1:w27.cell? ⟨gb183,1,none⟩=some (.slice A0_1 l0_1.length c0_1):=(blk_cell BK183.out 1).trans rfl;have hcz29_2:w27.cell? ⟨gb183,2,none⟩=some (.slice A0_2 l0_2.length c0_2):=(blk_cell BK183.out 2).trans rfl;have hfz29_0:=blk_frozen BK183.out 0;have hfz29_1:=blk_frozen BK183.out 1;have hfz29_2:=blk_frozen BK183.out 2)|((with_reducible refine gate_callee (f:=15) rfl ?_);refine goesL_ (some 11) rfl rfl Tryd.func15 (by kernel_rfl) rfl #[.agg #[.string a0_0,.slice A0_1 l0_1.length c0_1,.slice A0_2 l0_2.length c0_2],.int .i64 1048576] rfl (by (try simp only [List.map_toArray,List.map_cons,List.map_nil]);first|done|rfl|(simp only [List.length_drop,List.length_take];rfl)) ?_;(with_reducible refine (laws_szConf.calls k a0_0 _ _ l0_1 _ _ l0_2 1048576 t185 _ ?side1 ?side2 ?side3 ?side4 A3.out).mono ?_);(case side1=>repeat (first|exact (Kd.C_below HR0_1.out HB.out)|(with_reducible refine Kd.C_alloc ?_ _)|(with_reducible refine Kd.C_drewN ?_ _)|(with_reducible refine Kd.C_drew ?_)));(case side2=>exact HC0_1.out);(case side3=>repeat (first|exact (Kd.C_below HR0_2.out HB.out)|(with_reducible refine Kd.C_alloc ?_ _)|(with_reducible refine Kd.C_drewN ?_ _)|(with_reducible refine Kd.C_drew ?_)));(case side4=>exact HC0_2.out);rintro e w30 ⟨rfl,hb⟩;refine ⟨_,rfl,?_⟩;have n0_:=Aside0.mk (blk_below (g:=gb183) (o:=.cells #[.string a0_0,.slice A0_1 l0_1.length c0_1,.slice A0_2 l0_2.length c0_2] 39 (0,0)) (by (with_reducible repeat (first|refine blk_drewN ?_ _|refine blk_drew ?_|refine blk_alloc ?_ _));exact BK183.out) hb);have n1_:=Aside0.mk (blk_below (g:=gb184) (o:=.cells #[.string a1_0,.string a1_1] 23 (0,0)) (by (with_reducible repeat (first|refine blk_drewN ?_ _|refine blk_drew ?_|refine blk_alloc ?_ _));exact BK184.out) hb);have n2_:=Aside0.mk (below_step (by repeat (first|(with_reducible first|exact HB.out|apply below_alloc|apply pw_below_drewN|apply below_drew1|refine below_set ?_ GE183.out|refine below_set ?_ GE184.out)|exact HB.out)) hb);clear BK183;clear BK184;clear HB;have BK183:=n0_;have BK184:=n1_;have HB:=n2_;clear n0_ n1_ n2_;(try clear hb);(try clear hb2);(try clear hk);(try clear hi);have hcz31_0:w30.cell? ⟨gb184,0,none⟩=some (.string a1_0):=(blk_cell BK184.out 0).trans rfl;have hcz31_1:w30.cell? ⟨gb184,1,none⟩=some (.string a1_1):=(blk_cell BK184.out 1).trans rfl;have hfz31_0:=blk_frozen BK184.out 0;have hfz31_1:=blk_frozen BK184.out 1)|((with_reducible refine gate_callee (f:=20) rfl ?_);refine goesL_ (some 16) rfl rfl Tryd.func20 (by kernel_rfl) rfl #[.agg #[.string a1_0,.string a1_1],.int .i64 t185] rfl (by (try simp only [List.map_toArray,List.map_cons,List.map_nil]);first|done|rfl|(simp only [List.length_drop,List.length_take];rfl)) ?_;(with_reducible refine (laws_szAddr.calls a1_0 a1_1 t185 t186 _ A10.out).mono ?_);rintro e w32 ⟨rfl,hb⟩;refine ⟨_,rfl,?_⟩;have n0_:=Aside0.mk (blk_below (g:=gb183) (o:=.cells #[.string a0_0,.slice A0_1 l0_1.length c0_1,.slice A0_2 l0_2.length c0_2] 39 (0,0)) (by (with_reducible repeat (first|refine blk_drewN ?_ _|refine blk_drew ?_|refine blk_alloc ?_ _));exact BK183.out) hb);have n1_:=Aside0.mk (blk_below (g:=gb184) (o:=.cells #[.string a1_0,.string a1_1] 23 (0,0)) (by (with_reducible repeat (first|refine blk_drewN ?_ _|refine blk_drew ?_|refine blk_alloc ?_ _));exact BK184.out) hb);have n2_:=Aside0.mk (below_step (by repeat (first|(with_reducible first|exact HB.out|apply below_alloc|apply pw_below_drewN|apply below_drew1|refine below_set ?_ GE183.out|refine below_set ?_ GE184.out)|exact HB.out)) hb);clear BK183;clear BK184;clear HB;have BK183:=n0_;have BK184:=n1_;have HB:=n2_;clear n0_ n1_ n2_;(try clear hb);(try clear hb2);(try clear hk);(try clear hi)))
        have n0_:=Aside0.mk (blk_drew BK183.out)
        have n1_:=Aside0.mk (blk_drew BK184.out)
        have n2_:=Aside0.mk (below_drew1 HB.out)
        clear BK183
        clear BK184
        clear HB
        have BK183:=n0_
        have BK184:=n1_
        have HB:=n2_
        clear n0_ n1_ n2_
        refine start_ (n:=6) (S:=fun w'=>w'.cell? ⟨gb183,0,none⟩=some (.string a0_0)∧w'.cell? ⟨gb183,1,none⟩=some (.slice A0_1 l0_1.length c0_1)∧w'.cell? ⟨gb183,2,none⟩=some (.slice A0_2 l0_2.length c0_2)∧w'.cell? ⟨gb184,0,none⟩=some (.string a1_0)∧w'.cell? ⟨gb184,1,none⟩=some (.string a1_1)) (ds:=[]) #[false,false,false,false,false,false] (by kernel_rfl) rfl rfl ⟨(blk_cell BK183.out 0).trans rfl,(blk_cell BK183.out 1).trans rfl,(blk_cell BK183.out 2).trans rfl,(blk_cell BK184.out 0).trans rfl,(blk_cell BK184.out 1).trans rfl⟩ (fun hHeld=>?_)
        generalize w32.drew=w33 at BK183 BK184 HB hHeld ⊢
        refine take_ (i:=0) (N:=some 19) (v:=?_) (a':=?_) #[true,false,false,false,false,false] rfl rfl (by kernel_rfl) (fun _ _ _ h=>h) (Or.inl ⟨by rfl,?_⟩) hHeld ?_ ?_
        rotate_left
        · rintro w' ⟨s0,s1,s2,s3,s4⟩
          go_simp
          with_reducible rfl
        rotate_left
        · simp only [Act.put,List.setIfInBounds_toArray,List.set_cons_zero,List.set_cons_succ,i64_w,i32_w]
          rfl
        refine take_ (i:=2) (N:=some 21) (v:=?_) (a':=?_) #[true,false,true,false,false,false] rfl rfl (by kernel_rfl) (fun _ _ _ h=>h) (Or.inl ⟨by rfl,?_⟩) hHeld ?_ ?_
        rotate_left
        · rintro w' ⟨s0,s1,s2,s3,s4⟩
          go_simp
          with_reducible rfl
        rotate_left
        · simp only [Act.put,List.setIfInBounds_toArray,List.set_cons_zero,List.set_cons_succ,i64_w,i32_w]
          rfl
        refine one_ (i:=1) (N:=some 20) #[true,true,true,false,false,false] rfl rfl (by kernel_rfl) (by decide) (fun K hK=>?_)
        refine goes_ Tryd.func17 (by kernel_rfl) rfl #[.agg #[.string a0_0,.slice A0_1 l0_1.length c0_1,.slice A0_2 l0_2.length c0_2]] (by rfl) rfl rfl (by (try simp only [List.map_toArray,List.map_cons,List.map_nil]);first|done|rfl|(simp only [List.length_drop,List.length_take];rfl)) ?_
        with_reducible refine (laws_toConf.calls k a0_0 _ _ l0_1 _ _ l0_2 t187 t188 t191 _ ?side1 ?side2 ?side3 ?side4 A19.out).mono ?_
        (case side1=>repeat (first|exact (Kd.C_below HR0_1.out HB.out)|(with_reducible refine Kd.C_alloc ?_ _)|(with_reducible refine Kd.C_drewN ?_ _)|(with_reducible refine Kd.C_drew ?_)))
        (case side2=>exact HC0_1.out)
        (case side3=>repeat (first|exact (Kd.C_below HR0_2.out HB.out)|(with_reducible refine Kd.C_alloc ?_ _)|(with_reducible refine Kd.C_drewN ?_ _)|(with_reducible refine Kd.C_drew ?_)))
        (case side4=>exact HC0_2.out)
        rintro e w34 ⟨v189,v192,rfl,ho0,ho1,hb⟩
        refine ⟨_,rfl,?_⟩
        have n0_:=Aside0.mk (Kd.R_lower ho0 (below_size (by repeat (first|(with_reducible first|exact HB.out|apply below_alloc|apply pw_below_drewN|apply below_drew1|refine below_set ?_ GE183.out|refine below_set ?_ GE184.out)|exact HB.out))))
        have n1_:=Aside0.mk (Kd.R_lower ho1 (below_size (by repeat (first|(with_reducible first|exact HB.out|apply below_alloc|apply pw_below_drewN|apply below_drew1|refine below_set ?_ GE183.out|refine below_set ?_ GE184.out)|exact HB.out))))
        have n2_:=Aside0.mk (blk_below (g:=gb183) (o:=.cells #[.string a0_0,.slice A0_1 l0_1.length c0_1,.slice A0_2 l0_2.length c0_2] 39 (0,0)) (by (with_reducible repeat (first|refine blk_drewN ?_ _|refine blk_drew ?_|refine blk_alloc ?_ _));exact BK183.out) hb)
        have n3_:=Aside0.mk (blk_below (g:=gb184) (o:=.cells #[.string a1_0,.string a1_1] 23 (0,0)) (by (with_reducible repeat (first|refine blk_drewN ?_ _|refine blk_drew ?_|refine blk_alloc ?_ _));exact BK184.out) hb)
        have n4_:=Aside0.mk (below_step (by repeat (first|(with_reducible first|exact HB.out|apply below_alloc|apply pw_below_drewN|apply below_drew1|refine below_set ?_ GE183.out|refine below_set ?_ GE184.out)|exact HB.out)) hb)
        clear BK183
        clear BK184
        clear HB
        have HO190:=n0_
        have HO193:=n1_
        have BK183:=n2_
        have BK184:=n3_
        have HB:=n4_
        clear n0_ n1_ n2_ n3_ n4_
        (try clear hb)
        (try clear hb2)
        (try clear hk)
        (try clear hi)
        (try clear ho0)
        (try clear ho1)
        refine hK.out _ _ ⟨(blk_cell BK183.out 0).trans rfl,(blk_cell BK183.out 1).trans rfl,(blk_cell BK183.out 2).trans rfl,(blk_cell BK184.out 0).trans rfl,(blk_cell BK184.out 1).trans rfl⟩ (fun hHeld=>?_)
        clear hK K
        refine norm_ (a':=?_) ?_ ?_
        rotate_left
        · show Act.put _ (some 20) _=_
          simp only [Act.put,List.setIfInBounds_toArray,List.set_cons_zero,List.set_cons_succ,i64_w,i32_w]
          rfl
        refine one_ (i:=3) (N:=some 22) #[true,true,true,true,false,false] rfl rfl (by kernel_rfl) (by decide) (fun K hK=>?_)
        refine goes_ Tryd.func22 (by kernel_rfl) rfl #[.agg #[.string a1_0,.string a1_1]] (by rfl) rfl rfl (by (try simp only [List.map_toArray,List.map_cons,List.map_nil]);first|done|rfl|(simp only [List.length_drop,List.length_take];rfl)) ?_
        with_reducible refine (laws_toAddr.calls a1_0 a1_1 t194 t195 _ A20.out).mono ?_
        rintro e w35 ⟨rfl,hb⟩
        refine ⟨_,rfl,?_⟩
        have n0_:=Aside0.mk (Kd.R_below (by (with_reducible repeat (first|apply Kd.R_alloc|apply Kd.R_drewN|apply Kd.R_drew));exact HO190.out) hb)
        have n1_:=Aside0.mk (Kd.R_below (by (with_reducible repeat (first|apply Kd.R_alloc|apply Kd.R_drewN|apply Kd.R_drew));exact HO193.out) hb)
        have n2_:=Aside0.mk (blk_below (g:=gb183) (o:=.cells #[.string a0_0,.slice A0_1 l0_1.length c0_1,.slice A0_2 l0_2.length c0_2] 39 (0,0)) (by (with_reducible repeat (first|refine blk_drewN ?_ _|refine blk_drew ?_|refine blk_alloc ?_ _));exact BK183.out) hb)
        have n3_:=Aside0.mk (blk_below (g:=gb184) (o:=.cells #[.string a1_0,.string a1_1] 23 (0,0)) (by (with_reducible repeat (first|refine blk_drewN ?_ _|refine blk_drew ?_|refine blk_alloc ?_ _));exact BK184.out) hb)
        have n4_:=Aside0.mk (below_step (by repeat (first|(with_reducible first|exact HB.out|apply below_alloc|apply pw_below_drewN|apply below_drew1|refine below_set ?_ GE183.out|refine below_set ?_ GE184.out)|exact HB.out)) hb)
        clear HO190
        clear HO193
        clear BK183
        clear BK184
        clear HB
        have HO190:=n0_
        have HO193:=n1_
        have BK183:=n2_
        have BK184:=n3_
        have HB:=n4_
        clear n0_ n1_ n2_ n3_ n4_
        (try clear hb)
        (try clear hb2)
        (try clear hk)
        (try clear hi)
        obtain ⟨Ao36,co36,eo36⟩:=Kd.R_slice HO190.out
        (first|subst eo36|(injection eo36 with f1_ f2_ f3_;have f4_:=f1_.symm;have f5_:=f3_.symm;clear f1_ f2_ f3_;subst f4_;subst f5_))
        obtain ⟨Ao37,co37,eo37⟩:=Kd.R_slice HO193.out
        (first|subst eo37|(injection eo37 with f1_ f2_ f3_;have f4_:=f1_.symm;have f5_:=f3_.symm;clear f1_ f2_ f3_;subst f4_;subst f5_))
        refine hK.out _ _ ⟨(blk_cell BK183.out 0).trans rfl,(blk_cell BK183.out 1).trans rfl,(blk_cell BK183.out 2).trans rfl,(blk_cell BK184.out 0).trans rfl,(blk_cell BK184.out 1).trans rfl⟩ (fun hHeld=>?_)
        clear hK K
        refine norm_ (a':=?_) ?_ ?_
        rotate_left
        · show Act.put _ (some 22) _=_
          simp only [Act.put,List.setIfInBounds_toArray,List.set_cons_zero,List.set_cons_succ,i64_w,i32_w]
          rfl
        refine one_ (i:=4) (N:=some 23) #[true,true,true,true,true,false] rfl rfl (by kernel_rfl) (by decide) (fun K hK=>?_)
        refine goes_ Tryd.func21 (by kernel_rfl) rfl #[.agg #[.string t187,.slice Ao36 t188.length co36,.slice Ao37 t191.length co37],.agg #[.string t194,.string t195]] (by rfl) rfl rfl (by (try simp only [List.map_toArray,List.map_cons,List.map_nil]);first|done|rfl|(simp only [List.length_drop,List.length_take];rfl)) ?_
        with_reducible refine (spec_ConfTakes.calls k t187 _ _ t188 _ _ t191 t194 t195 t196 _ ?side1 ?side2 ?side3 ?side4 A21.out).mono ?_
        (case side1=>repeat (first|exact (Kd.R_reads' HO190.out).2.2|(with_reducible refine Kd.C_alloc ?_ _)|(with_reducible refine Kd.C_drewN ?_ _)|(with_reducible refine Kd.C_drew ?_)))
        (case side2=>exact (Kd.R_reads' HO190.out).2.1)
        (case side3=>repeat (first|exact (Kd.R_reads' HO193.out).2.2|(with_reducible refine Kd.C_alloc ?_ _)|(with_reducible refine Kd.C_drewN ?_ _)|(with_reducible refine Kd.C_drew ?_)))
        (case side4=>exact (Kd.R_reads' HO193.out).2.1)
        rintro e w38 ⟨rfl,hb⟩
        refine ⟨_,rfl,?_⟩
        have n0_:=Aside0.mk (Kd.R_below (by (with_reducible repeat (first|apply Kd.R_alloc|apply Kd.R_drewN|apply Kd.R_drew));exact HO190.out) hb)
        have n1_:=Aside0.mk (Kd.R_below (by (with_reducible repeat (first|apply Kd.R_alloc|apply Kd.R_drewN|apply Kd.R_drew));exact HO193.out) hb)
        have n2_:=Aside0.mk (blk_below (g:=gb183) (o:=.cells #[.string a0_0,.slice A0_1 l0_1.length c0_1,.slice A0_2 l0_2.length c0_2] 39 (0,0)) (by (with_reducible repeat (first|refine blk_drewN ?_ _|refine blk_drew ?_|refine blk_alloc ?_ _));exact BK183.out) hb)
        have n3_:=Aside0.mk (blk_below (g:=gb184) (o:=.cells #[.string a1_0,.string a1_1] 23 (0,0)) (by (with_reducible repeat (first|refine blk_drewN ?_ _|refine blk_drew ?_|refine blk_alloc ?_ _));exact BK184.out) hb)
        have n4_:=Aside0.mk (below_step (by repeat (first|(with_reducible first|exact HB.out|apply below_alloc|apply pw_below_drewN|apply below_drew1|refine below_set ?_ GE183.out|refine below_set ?_ GE184.out)|exact HB.out)) hb)
        clear HO190
        clear HO193
        clear BK183
        clear BK184
        clear HB
        have HO190:=n0_
        have HO193:=n1_
        have BK183:=n2_
        have BK184:=n3_
        have HB:=n4_
        clear n0_ n1_ n2_ n3_ n4_
        (try clear hb)
        (try clear hb2)
        (try clear hk)
        (try clear hi)
        refine hK.out _ _ ⟨(blk_cell BK183.out 0).trans rfl,(blk_cell BK183.out 1).trans rfl,(blk_cell BK183.out 2).trans rfl,(blk_cell BK184.out 0).trans rfl,(blk_cell BK184.out 1).trans rfl⟩ (fun hHeld=>?_)
        clear hK K
        refine norm_ (a':=?_) ?_ ?_
        rotate_left
        · show Act.put _ (some 23) _=_
          simp only [Act.put,List.setIfInBounds_toArray,List.set_cons_zero,List.set_cons_succ,i64_w,i32_w]
          rfl
        refine pure_ (i:=5) (N:=some 6) (v:=?_) (a':=?_) #[true,true,true,true,true,true] rfl rfl (by kernel_rfl) (fun _ _ _ h=>h) (Or.inl ⟨by rfl,?_⟩) ?_ ?_
        rotate_left
        · intro w'
          go_simp
          with_reducible rfl
        rotate_left
        · simp only [Act.put,List.setIfInBounds_toArray,List.set_cons_zero,List.set_cons_succ,i64_w,i32_w]
          rfl
        refine done_ (by kernel_rfl) ?_
        have hcz39_0:w38.cell? ⟨gb183,0,none⟩=some (.string a0_0):=(blk_cell BK183.out 0).trans rfl
        have hcz39_1:w38.cell? ⟨gb183,1,none⟩=some (.slice A0_1 l0_1.length c0_1):=(blk_cell BK183.out 1).trans rfl
        have hcz39_2:w38.cell? ⟨gb183,2,none⟩=some (.slice A0_2 l0_2.length c0_2):=(blk_cell BK183.out 2).trans rfl
        have hfz39_0:=blk_frozen BK183.out 0
        have hfz39_1:=blk_frozen BK183.out 1
        have hfz39_2:=blk_frozen BK183.out 2
        try go_wp2_with (first|((with_reducible refine gate_callee (f:=17) rfl ?_);refine goesL_ (some 25) rfl rfl Tryd.func17 (by kernel_rfl) rfl #[.agg #[.string a0_0,.slice A0_1 l0_1.length c0_1,.slice A0_2 l0_2.length c0_2]] rfl (by (try simp only [List.map_toArray,List.map_cons,List.map_nil]);first|done|rfl|(simp only [List.length_drop,List.length_take];rfl)) ?_;(with_reducible refine (laws_toConf.calls k a0_0 _ _ l0_1 _ _ l0_2 t197 t198 t201 _ ?side1 ?side2 ?side3 ?side4 A22.out).mono ?_);(case side1=>repeat (first|exact (Kd.C_below HR0_1.out HB.out)|(with_reducible refine Kd.C_alloc ?_ _)|(with_reducible refine Kd.C_drewN ?_ _)|(with_reducible refine Kd.C_drew ?_)));(case side2=>exact HC0_1.out);(case side3=>repeat (first|exact (Kd.C_below HR0_2.out HB.out)|(with_reducible refine Kd.C_alloc ?_ _)|(with_reducible refine Kd.C_drewN ?_ _)|(with_reducible refine Kd.C_drew ?_)));(case side4=>exact HC0_2.out);rintro e w40 ⟨v199,v202,rfl,ho0,ho1,hb⟩;refine ⟨_,rfl,?_⟩;have n0_:=Aside0.mk (Kd.R_elder' (by (with_reducible repeat (first|apply Kd.R_alloc|apply Kd.R_drewN|apply Kd.R_drew));exact HO190.out) (Kd.R_base ho0) hb);have n1_:=Aside0.mk (Kd.R_elder' (by (with_reducible repeat (first|apply Kd.R_alloc|apply Kd.R_drewN|apply Kd.R_drew));exact HO193.out) (Kd.R_base ho1) hb);have n2_:=Aside0.mk (Kd.R_lower (Kd.R_new' ho0 (Kd.R_lt (by (with_reducible repeat (first|apply Kd.R_alloc|apply Kd.R_drewN|apply Kd.R_drew));exact HO190.out))) (below_size (by repeat (first|(with_reducible first|exact HB.out|apply below_alloc|apply pw_below_drewN|apply below_drew1|refine below_set ?_ GE183.out|refine below_set ?_ GE184.out)|exact HB.out))));have n3_:=Aside0.mk (Kd.R_lower (Kd.R_new' ho1 (Kd.R_lt (by (with_reducible repeat (first|apply Kd.R_alloc|apply Kd.R_drewN|apply Kd.R_drew));exact HO193.out))) (below_size (by repeat (first|(with_reducible first|exact HB.out|apply below_alloc|apply pw_below_drewN|apply below_drew1|refine below_set ?_ GE183.out|refine below_set ?_ GE184.out)|exact HB.out))));have n4_:=Aside0.mk (blk_below (g:=gb183) (o:=.cells #[.string a0_0,.slice A0_1 l0_1.length c0_1,.slice A0_2 l0_2.length c0_2] 39 (0,0)) (by (with_reducible repeat (first|refine blk_drewN ?_ _|refine blk_drew ?_|refine blk_alloc ?_ _));exact BK183.out) hb);have n5_:=Aside0.mk (blk_below (g:=gb184) (o:=.cells #[.string a1_0,.string a1_1] 23 (0,0)) (by (with_reducible repeat (first|refine blk_drewN ?_ _|refine blk_drew ?_|refine blk_alloc ?_ _));exact BK184.out) hb);have n6_:=Aside0.mk (below_step (by repeat (first|(with_reducible first|exact HB.out|apply below_alloc|apply pw_below_drewN|apply below_drew1|refine below_set ?_ GE183.out|refine below_set ?_ GE184.out)|exact HB.out)) hb);clear HO190;clear HO193;clear BK183;clear BK184;clear HB;have HO190:=n0_;have HO193:=n1_;have HO200:=n2_;have HO203:=n3_;have BK183:=n4_;have BK184:=n5_;have HB:=n6_;clear n0_ n1_ n2_ n3_ n4_ n5_ n6_;(try clear hb);(try clear hb2);(try clear hk);(try clear hi);(try clear ho0);(try clear ho1))|((with_reducible refine gate_dst (N:=7) rfl ?_);refine box_event ?hg (N:=7) ?hd (cs:=#[.string (⟨#[]⟩:ByteArray),.slice none 0 0,.slice none 0 0]) (t:=44) ?hr ?_;(case hd=>rfl);(case hg=>rfl);(case hr=>first|(go_simp;done)|(go_simp;rfl));intro gb204 hg w41 hbox hb;have n0_:=Aside0.mk (Kd.R_below (by (with_reducible repeat (first|apply Kd.R_alloc|apply Kd.R_drewN|apply Kd.R_drew));exact HO190.out) hb);have n1_:=Aside0.mk (Kd.R_below (by (with_reducible repeat (first|apply Kd.R_alloc|apply Kd.R_drewN|apply Kd.R_drew));exact HO193.out) hb);have n2_:=Aside0.mk (Kd.R_below (by (with_reducible repeat (first|apply Kd.R_alloc|apply Kd.R_drewN|apply Kd.R_drew));exact HO200.out) hb);have n3_:=Aside0.mk (Kd.R_below (by (with_reducible repeat (first|apply Kd.R_alloc|apply Kd.R_drewN|apply Kd.R_drew));exact HO203.out) hb);have n4_:=Aside0.mk (blk_below (g:=gb183) (o:=.cells #[.string a0_0,.slice A0_1 l0_1.length c0_1,.slice A0_2 l0_2.length c0_2] 39 (0,0)) (by (with_reducible repeat (first|refine blk_drewN ?_ _|refine blk_drew ?_|refine blk_alloc ?_ _));exact BK183.out) hb);have n5_:=Aside0.mk (blk_below (g:=gb184) (o:=.cells #[.string a1_0,.string a1_1] 23 (0,0)) (by (with_reducible repeat (first|refine blk_drewN ?_ _|refine blk_drew ?_|refine blk_alloc ?_ _));exact BK184.out) hb);have n6_:=Aside0.mk (below_step (by repeat (first|(with_reducible first|exact HB.out|apply below_alloc|apply pw_below_drewN|apply below_drew1|refine below_set ?_ GE183.out|refine below_set ?_ GE184.out)|exact HB.out)) hb);have n7_:=Aside0.mk (hbox);have n8_:=Aside0.mk ((by rw [hg];exact (below_size (by repeat (first|(with_reducible first|exact HB.out|apply below_alloc|apply pw_below_drewN|apply below_drew1|refine below_set ?_ GE183.out|refine below_set ?_ GE184.out)|exact HB.out))):w.heap.size≤gb204));have n9_:=Aside0.mk ((by rw [hg];exact (below_size (by repeat (first|(with_reducible first|exact HB.out|apply below_alloc|apply pw_below_drewN|apply below_drew1|refine below_set ?_ GE183.out|refine below_set ?_ GE184.out)|exact HB.out))):w.heap.size≤gb204));have n10_:=Aside0.mk ((by rw [hg];exact Nat.ne_of_lt (blk_lt (g:=gb183) (o:=.cells #[.string a0_0,.slice A0_1 l0_1.length c0_1,.slice A0_2 l0_2.length c0_2] 39 (0,0)) (by (with_reducible repeat (first|refine blk_drewN ?_ _|refine blk_drew ?_|refine blk_alloc ?_ _));exact BK183.out)):gb183≠gb204));have n11_:=Aside0.mk ((by rw [hg];exact Nat.ne_of_gt (blk_lt (g:=gb183) (o:=.cells #[.string a0_0,.slice A0_1 l0_1.length c0_1,.slice A0_2 l0_2.length c0_2] 39 (0,0)) (by (with_reducible repeat (first|refine blk_drewN ?_ _|refine blk_drew ?_|refine blk_alloc ?_ _));exact BK183.out)):gb204≠gb183));have n12_:=Aside0.mk ((by rw [hg];exact Nat.ne_of_lt (blk_lt (g:=gb184) (o:=.cells #[.string a1_0,.string a1_1] 23 (0,0)) (by (with_reducible repeat (first|refine blk_drewN ?_ _|refine blk_drew ?_|refine blk_alloc ?_ _));exact BK184.out)):gb184≠gb204));have n13_:=Aside0.mk ((by rw [hg];exact Nat.ne_of_gt (blk_lt (g:=gb184) (o:=.cells #[.string a1_0,.string a1_1] 23 (0,0)) (by (with_reducible repeat (first|refine blk_drewN ?_ _|refine blk_drew ?_|refine blk_alloc ?_ _));exact BK184.out)):gb204≠gb184));clear HO190;clear HO193;clear HO200;clear HO203;clear BK183;clear BK184;clear HB;have HO190:=n0_;have HO193:=n1_;have HO200:=n2_;have HO203:=n3_;have BK183:=n4_;have BK184:=n5_;have HB:=n6_;have BK204:=n7_;have GW204:=n8_;have GE204:=n9_;have NB183_204:=n10_;have NB204_183:=n11_;have NB184_204:=n12_;have NB204_184:=n13_;clear n0_ n1_ n2_ n3_ n4_ n5_ n6_ n7_ n8_ n9_ n10_ n11_ n12_ n13_;clear hb hbox hg;have hnb42:=NB204_183.out;have hnc42:=NB183_204.out;have hnb43:=NB204_184.out;have hnc43:=NB184_204.out;have hcz44_0:w41.cell? ⟨gb204,0,none⟩=some (.string (⟨#[]⟩:ByteArray)):=(blk_cell BK204.out 0).trans rfl;have hcz44_1:w41.cell? ⟨gb204,1,none⟩=some (.slice none 0 0):=(blk_cell BK204.out 1).trans rfl;have hcz44_2:w41.cell? ⟨gb204,2,none⟩=some (.slice none 0 0):=(blk_cell BK204.out 2).trans rfl;have hfz44_0:=blk_frozen BK204.out 0;have hfz44_1:=blk_frozen BK204.out 1;have hfz44_2:=blk_frozen BK204.out 2;obtain ⟨Ao45,co45,eo45⟩:=Kd.R_slice HO200.out;subst eo45;obtain ⟨Ao46,co46,eo46⟩:=Kd.R_slice HO203.out;subst eo46))
        have n0_:Aside0 (Kd.R Kd.string 9 (((w41.setCell ⟨gb204,0,none⟩ (.string t197)).setCell ⟨gb204,1,none⟩ (.slice Ao45 t198.length co45)).setCell ⟨gb204,2,none⟩ (.slice Ao46 t201.length co46)) w.heap.size (fun k_=>some k_≠(.slice Ao45 t198.length co45:Value).ownBlock) (.slice Ao36 t188.length co36) t188):=⟨by (with_reducible repeat (first|apply Kd.R_alloc|apply Kd.R_drewN|apply Kd.R_drew));exact Kd.R_mono (Kd.R_far (p:=⟨gb204,2,none⟩) (Kd.R_far (p:=⟨gb204,1,none⟩) (Kd.R_far (p:=⟨gb204,0,none⟩) (Kd.R_types HO190.out BK204.out (by decide)) (fun _ hk=>hk.2) (.string t197)) (fun _ hk=>hk.2) (.slice Ao45 t198.length co45)) (fun _ hk=>hk.2) (.slice Ao46 t201.length co46)) (fun _ hk=>hk.1.2)⟩
        have n1_:Aside0 (Kd.R k117 117 (((w41.setCell ⟨gb204,0,none⟩ (.string t197)).setCell ⟨gb204,1,none⟩ (.slice Ao45 t198.length co45)).setCell ⟨gb204,2,none⟩ (.slice Ao46 t201.length co46)) w.heap.size (fun k_=>some k_≠(.slice Ao46 t201.length co46:Value).ownBlock) (.slice Ao37 t191.length co37) t191):=⟨by (with_reducible repeat (first|apply Kd.R_alloc|apply Kd.R_drewN|apply Kd.R_drew));exact Kd.R_mono (Kd.R_far (p:=⟨gb204,2,none⟩) (Kd.R_far (p:=⟨gb204,1,none⟩) (Kd.R_far (p:=⟨gb204,0,none⟩) (Kd.R_types HO193.out BK204.out (by decide)) (fun _ hk=>hk.2) (.string t197)) (fun _ hk=>hk.2) (.slice Ao45 t198.length co45)) (fun _ hk=>hk.2) (.slice Ao46 t201.length co46)) (fun _ hk=>hk.1.2)⟩
        have n2_:Aside0 (Kd.R Kd.string 9 (((w41.setCell ⟨gb204,0,none⟩ (.string t197)).setCell ⟨gb204,1,none⟩ (.slice Ao45 t198.length co45)).setCell ⟨gb204,2,none⟩ (.slice Ao46 t201.length co46)) w.heap.size (fun k_=>some k_≠(.slice Ao36 t188.length co36:Value).ownBlock) (.slice Ao45 t198.length co45) t198):=⟨by (with_reducible repeat (first|apply Kd.R_alloc|apply Kd.R_drewN|apply Kd.R_drew));exact Kd.R_mono (Kd.R_far (p:=⟨gb204,2,none⟩) (Kd.R_far (p:=⟨gb204,1,none⟩) (Kd.R_far (p:=⟨gb204,0,none⟩) (Kd.R_types HO200.out BK204.out (by decide)) (fun _ hk=>hk.2) (.string t197)) (fun _ hk=>hk.2) (.slice Ao45 t198.length co45)) (fun _ hk=>hk.2) (.slice Ao46 t201.length co46)) (fun _ hk=>hk.1.2)⟩
        have n3_:Aside0 (Kd.R k117 117 (((w41.setCell ⟨gb204,0,none⟩ (.string t197)).setCell ⟨gb204,1,none⟩ (.slice Ao45 t198.length co45)).setCell ⟨gb204,2,none⟩ (.slice Ao46 t201.length co46)) w.heap.size (fun k_=>some k_≠(.slice Ao37 t191.length co37:Value).ownBlock) (.slice Ao46 t201.length co46) t201):=⟨by (with_reducible repeat (first|apply Kd.R_alloc|apply Kd.R_drewN|apply Kd.R_drew));exact Kd.R_mono (Kd.R_far (p:=⟨gb204,2,none⟩) (Kd.R_far (p:=⟨gb204,1,none⟩) (Kd.R_far (p:=⟨gb204,0,none⟩) (Kd.R_types HO203.out BK204.out (by decide)) (fun _ hk=>hk.2) (.string t197)) (fun _ hk=>hk.2) (.slice Ao45 t198.length co45)) (fun _ hk=>hk.2) (.slice Ao46 t201.length co46)) (fun _ hk=>hk.1.2)⟩
        have n4_:Aside0 ((((w41.setCell ⟨gb204,0,none⟩ (.string t197)).setCell ⟨gb204,1,none⟩ (.slice Ao45 t198.length co45)).setCell ⟨gb204,2,none⟩ (.slice Ao46 t201.length co46)).heap[gb183]?=some (.cells #[.string a0_0,.slice A0_1 l0_1.length c0_1,.slice A0_2 l0_2.length c0_2] 39 (0,0))):=⟨by (with_reducible repeat (first|refine blk_drewN ?_ _|refine blk_drew ?_|refine blk_alloc ?_ _));refine blk_far ?_ NB183_204.out _;(with_reducible repeat (first|refine blk_drewN ?_ _|refine blk_drew ?_|refine blk_alloc ?_ _));refine blk_far ?_ NB183_204.out _;(with_reducible repeat (first|refine blk_drewN ?_ _|refine blk_drew ?_|refine blk_alloc ?_ _));refine blk_far ?_ NB183_204.out _;(with_reducible repeat (first|refine blk_drewN ?_ _|refine blk_drew ?_|refine blk_alloc ?_ _));exact BK183.out⟩
        have n5_:Aside0 ((((w41.setCell ⟨gb204,0,none⟩ (.string t197)).setCell ⟨gb204,1,none⟩ (.slice Ao45 t198.length co45)).setCell ⟨gb204,2,none⟩ (.slice Ao46 t201.length co46)).heap[gb184]?=some (.cells #[.string a1_0,.string a1_1] 23 (0,0))):=⟨by (with_reducible repeat (first|refine blk_drewN ?_ _|refine blk_drew ?_|refine blk_alloc ?_ _));refine blk_far ?_ NB184_204.out _;(with_reducible repeat (first|refine blk_drewN ?_ _|refine blk_drew ?_|refine blk_alloc ?_ _));refine blk_far ?_ NB184_204.out _;(with_reducible repeat (first|refine blk_drewN ?_ _|refine blk_drew ?_|refine blk_alloc ?_ _));refine blk_far ?_ NB184_204.out _;(with_reducible repeat (first|refine blk_drewN ?_ _|refine blk_drew ?_|refine blk_alloc ?_ _));exact BK184.out⟩
        have n6_:Aside0 ((((w41.setCell ⟨gb204,0,none⟩ (.string t197)).setCell ⟨gb204,1,none⟩ (.slice Ao45 t198.length co45)).setCell ⟨gb204,2,none⟩ (.slice Ao46 t201.length co46)).heap[gb204]?=some (.cells #[.string t197,.slice Ao45 t198.length co45,.slice Ao46 t201.length co46] 44 (0,0))):=⟨by (with_reducible repeat (first|refine blk_drewN ?_ _|refine blk_drew ?_|refine blk_alloc ?_ _));refine blk_put (cs:=#[.string t197,.slice Ao45 t198.length co45,.slice none 0 0]) ?_ 2 _ rfl;(with_reducible repeat (first|refine blk_drewN ?_ _|refine blk_drew ?_|refine blk_alloc ?_ _));refine blk_put (cs:=#[.string t197,.slice none 0 0,.slice none 0 0]) ?_ 1 _ rfl;(with_reducible repeat (first|refine blk_drewN ?_ _|refine blk_drew ?_|refine blk_alloc ?_ _));refine blk_put (cs:=#[.string (⟨#[]⟩:ByteArray),.slice none 0 0,.slice none 0 0]) ?_ 0 _ rfl;(with_reducible repeat (first|refine blk_drewN ?_ _|refine blk_drew ?_|refine blk_alloc ?_ _));exact BK204.out⟩
        have n7_:Aside0 (Below w.heap.size w (((w41.setCell ⟨gb204,0,none⟩ (.string t197)).setCell ⟨gb204,1,none⟩ (.slice Ao45 t198.length co45)).setCell ⟨gb204,2,none⟩ (.slice Ao46 t201.length co46))):=⟨by repeat (first|(with_reducible first|exact HB.out|apply below_alloc|apply pw_below_drewN|apply below_drew1|refine below_set ?_ GE183.out|refine below_set ?_ GE184.out|refine below_set ?_ GE204.out)|exact HB.out)⟩
        (try clear HO190)
        (try clear HO193)
        (try clear HO200)
        (try clear HO203)
        (try clear BK183)
        (try clear BK184)
        (try clear BK204)
        (try clear HB)
        generalize (((w41.setCell ⟨gb204,0,none⟩ (.string t197)).setCell ⟨gb204,1,none⟩ (.slice Ao45 t198.length co45)).setCell ⟨gb204,2,none⟩ (.slice Ao46 t201.length co46))=w47 at n0_ n1_ n2_ n3_ n4_ n5_ n6_ n7_ ⊢
        have HO190:=n0_
        have HO193:=n1_
        have HO200:=n2_
        have HO203:=n3_
        have BK183:=n4_
        have BK184:=n5_
        have BK204:=n6_
        have HB:=n7_
        clear n0_ n1_ n2_ n3_ n4_ n5_ n6_ n7_
        have n0_:=Aside0.mk (Kd.R_drew HO190.out)
        have n1_:=Aside0.mk (Kd.R_drew HO193.out)
        have n2_:=Aside0.mk (Kd.R_drew HO200.out)
        have n3_:=Aside0.mk (Kd.R_drew HO203.out)
        have n4_:=Aside0.mk (blk_drew BK183.out)
        have n5_:=Aside0.mk (blk_drew BK184.out)
        have n6_:=Aside0.mk (blk_drew BK204.out)
        have n7_:=Aside0.mk (below_drew1 HB.out)
        clear HO190
        clear HO193
        clear HO200
        clear HO203
        clear BK183
        clear BK184
        clear BK204
        clear HB
        have HO190:=n0_
        have HO193:=n1_
        have HO200:=n2_
        have HO203:=n3_
        have BK183:=n4_
        have BK184:=n5_
        have BK204:=n6_
        have HB:=n7_
        clear n0_ n1_ n2_ n3_ n4_ n5_ n6_ n7_
        refine start_ (n:=5) (S:=fun w'=>w'.cell? ⟨gb204,0,none⟩=some (.string t197)∧w'.cell? ⟨gb204,1,none⟩=some (.slice Ao45 t198.length co45)∧w'.cell? ⟨gb204,2,none⟩=some (.slice Ao46 t201.length co46)∧w'.cell? ⟨gb184,0,none⟩=some (.string a1_0)∧w'.cell? ⟨gb184,1,none⟩=some (.string a1_1)) (ds:=[]) #[false,false,false,false,false] (by kernel_rfl) rfl rfl ⟨(blk_cell BK204.out 0).trans rfl,(blk_cell BK204.out 1).trans rfl,(blk_cell BK204.out 2).trans rfl,(blk_cell BK184.out 0).trans rfl,(blk_cell BK184.out 1).trans rfl⟩ (fun hHeld=>?_)
        generalize w47.drew=w48 at HO190 HO193 HO200 HO203 BK183 BK184 BK204 HB hHeld ⊢
        refine take_ (i:=0) (N:=some 26) (v:=?_) (a':=?_) #[true,false,false,false,false] rfl rfl (by kernel_rfl) (fun _ _ _ h=>h) (Or.inl ⟨by rfl,?_⟩) hHeld ?_ ?_
        rotate_left
        · rintro w' ⟨s0,s1,s2,s3,s4⟩
          go_simp
          with_reducible rfl
        rotate_left
        · simp only [Act.put,List.setIfInBounds_toArray,List.set_cons_zero,List.set_cons_succ,i64_w,i32_w]
          rfl
        refine take_ (i:=1) (N:=some 27) (v:=?_) (a':=?_) #[true,true,false,false,false] rfl rfl (by kernel_rfl) (fun _ _ _ h=>h) (Or.inl ⟨by rfl,?_⟩) hHeld ?_ ?_
        rotate_left
        · rintro w' ⟨s0,s1,s2,s3,s4⟩
          go_simp
          with_reducible rfl
        rotate_left
        · simp only [Act.put,List.setIfInBounds_toArray,List.set_cons_zero,List.set_cons_succ,i64_w,i32_w]
          rfl
        refine one_ (i:=2) (N:=some 28) #[true,true,true,false,false] rfl rfl (by kernel_rfl) (by decide) (fun K hK=>?_)
        refine goes_ Tryd.func22 (by kernel_rfl) rfl #[.agg #[.string a1_0,.string a1_1]] (by rfl) rfl rfl (by (try simp only [List.map_toArray,List.map_cons,List.map_nil]);first|done|rfl|(simp only [List.length_drop,List.length_take];rfl)) ?_
        with_reducible refine (laws_toAddr.calls a1_0 a1_1 t205 t206 _ A23.out).mono ?_
        rintro e w49 ⟨rfl,hb⟩
        refine ⟨_,rfl,?_⟩
        have n0_:=Aside0.mk (Kd.R_below (by (with_reducible repeat (first|apply Kd.R_alloc|apply Kd.R_drewN|apply Kd.R_drew));exact HO190.out) hb)
        have n1_:=Aside0.mk (Kd.R_below (by (with_reducible repeat (first|apply Kd.R_alloc|apply Kd.R_drewN|apply Kd.R_drew));exact HO193.out) hb)
        have n2_:=Aside0.mk (Kd.R_below (by (with_reducible repeat (first|apply Kd.R_alloc|apply Kd.R_drewN|apply Kd.R_drew));exact HO200.out) hb)
        have n3_:=Aside0.mk (Kd.R_below (by (with_reducible repeat (first|apply Kd.R_alloc|apply Kd.R_drewN|apply Kd.R_drew));exact HO203.out) hb)
        have n4_:=Aside0.mk (blk_below (g:=gb183) (o:=.cells #[.string a0_0,.slice A0_1 l0_1.length c0_1,.slice A0_2 l0_2.length c0_2] 39 (0,0)) (by (with_reducible repeat (first|refine blk_drewN ?_ _|refine blk_drew ?_|refine blk_alloc ?_ _));exact BK183.out) hb)
        have n5_:=Aside0.mk (blk_below (g:=gb184) (o:=.cells #[.string a1_0,.string a1_1] 23 (0,0)) (by (with_reducible repeat (first|refine blk_drewN ?_ _|refine blk_drew ?_|refine blk_alloc ?_ _));exact BK184.out) hb)
        have n6_:=Aside0.mk (blk_below (g:=gb204) (o:=.cells #[.string t197,.slice Ao45 t198.length co45,.slice Ao46 t201.length co46] 44 (0,0)) (by (with_reducible repeat (first|refine blk_drewN ?_ _|refine blk_drew ?_|refine blk_alloc ?_ _));exact BK204.out) hb)
        have n7_:=Aside0.mk (below_step (by repeat (first|(with_reducible first|exact HB.out|apply below_alloc|apply pw_below_drewN|apply below_drew1|refine below_set ?_ GE183.out|refine below_set ?_ GE184.out|refine below_set ?_ GE204.out)|exact HB.out)) hb)
        clear HO190
        clear HO193
        clear HO200
        clear HO203
        clear BK183
        clear BK184
        clear BK204
        clear HB
        have HO190:=n0_
        have HO193:=n1_
        have HO200:=n2_
        have HO203:=n3_
        have BK183:=n4_
        have BK184:=n5_
        have BK204:=n6_
        have HB:=n7_
        clear n0_ n1_ n2_ n3_ n4_ n5_ n6_ n7_
        (try clear hb)
        (try clear hb2)
        (try clear hk)
        (try clear hi)
        refine hK.out _ _ ⟨(blk_cell BK204.out 0).trans rfl,(blk_cell BK204.out 1).trans rfl,(blk_cell BK204.out 2).trans rfl,(blk_cell BK184.out 0).trans rfl,(blk_cell BK184.out 1).trans rfl⟩ (fun hHeld=>?_)
        clear hK K
        refine norm_ (a':=?_) ?_ ?_
        rotate_left
        · show Act.put _ (some 28) _=_
          simp only [Act.put,List.setIfInBounds_toArray,List.set_cons_zero,List.set_cons_succ,i64_w,i32_w]
          rfl
        refine one_ (i:=3) (N:=some 29) #[true,true,true,true,false] rfl rfl (by kernel_rfl) (by decide) (fun K hK=>?_)
        refine goes_ Tryd.func23 (by kernel_rfl) rfl #[.agg #[.string t197,.slice Ao45 t198.length co45,.slice Ao46 t201.length co46],.agg #[.string t205,.string t206]] (by rfl) rfl rfl (by (try simp only [List.map_toArray,List.map_cons,List.map_nil]);first|done|rfl|(simp only [List.length_drop,List.length_take];rfl)) ?_
        with_reducible refine (impl_ConfTakes.calls k t197 _ _ t198 _ _ t201 t205 t206 t207 _ ?side1 ?side2 ?side3 ?side4 ?side5 A24.out).mono ?_
        (case side1=>repeat (first|exact (Kd.R_reads' HO200.out).2.2|(with_reducible refine Kd.C_alloc ?_ _)|(with_reducible refine Kd.C_drewN ?_ _)|(with_reducible refine Kd.C_drew ?_)))
        (case side2=>exact (Kd.R_reads' HO200.out).2.1)
        (case side3=>repeat (first|exact (Kd.R_reads' HO203.out).2.2|(with_reducible refine Kd.C_alloc ?_ _)|(with_reducible refine Kd.C_drewN ?_ _)|(with_reducible refine Kd.C_drew ?_)))
        (case side4=>exact (Kd.R_reads' HO203.out).2.1)
        (case side5=>first|(with_reducible exact HG.out)|((with_reducible repeat (first|exact HG.out|apply GOK.drewN|apply GOK.drew));done)|exact GOK.below HG.out (by repeat (first|(with_reducible first|exact HB.out|apply below_alloc|apply pw_below_drewN|apply below_drew1|refine below_set ?_ GE183.out|refine below_set ?_ GE184.out|refine below_set ?_ GE204.out)|exact HB.out)))
        rintro e w50 ⟨rfl,hb⟩
        refine ⟨_,rfl,?_⟩
        have n0_:=Aside0.mk (Kd.R_below (by (with_reducible repeat (first|apply Kd.R_alloc|apply Kd.R_drewN|apply Kd.R_drew));exact HO190.out) hb)
        have n1_:=Aside0.mk (Kd.R_below (by (with_reducible repeat (first|apply Kd.R_alloc|apply Kd.R_drewN|apply Kd.R_drew));exact HO193.out) hb)
        have n2_:=Aside0.mk (Kd.R_below (by (with_reducible repeat (first|apply Kd.R_alloc|apply Kd.R_drewN|apply Kd.R_drew));exact HO200.out) hb)
        have n3_:=Aside0.mk (Kd.R_below (by (with_reducible repeat (first|apply Kd.R_alloc|apply Kd.R_drewN|apply Kd.R_drew));exact HO203.out) hb)
        have n4_:=Aside0.mk (blk_below (g:=gb183) (o:=.cells #[.string a0_0,.slice A0_1 l0_1.length c0_1,.slice A0_2 l0_2.length c0_2] 39 (0,0)) (by (with_reducible repeat (first|refine blk_drewN ?_ _|refine blk_drew ?_|refine blk_alloc ?_ _));exact BK183.out) hb)
        have n5_:=Aside0.mk (blk_below (g:=gb184) (o:=.cells #[.string a1_0,.string a1_1] 23 (0,0)) (by (with_reducible repeat (first|refine blk_drewN ?_ _|refine blk_drew ?_|refine blk_alloc ?_ _));exact BK184.out) hb)
        have n6_:=Aside0.mk (blk_below (g:=gb204) (o:=.cells #[.string t197,.slice Ao45 t198.length co45,.slice Ao46 t201.length co46] 44 (0,0)) (by (with_reducible repeat (first|refine blk_drewN ?_ _|refine blk_drew ?_|refine blk_alloc ?_ _));exact BK204.out) hb)
        have n7_:=Aside0.mk (below_step (by repeat (first|(with_reducible first|exact HB.out|apply below_alloc|apply pw_below_drewN|apply below_drew1|refine below_set ?_ GE183.out|refine below_set ?_ GE184.out|refine below_set ?_ GE204.out)|exact HB.out)) hb)
        clear HO190
        clear HO193
        clear HO200
        clear HO203
        clear BK183
        clear BK184
        clear BK204
        clear HB
        have HO190:=n0_
        have HO193:=n1_
        have HO200:=n2_
        have HO203:=n3_
        have BK183:=n4_
        have BK184:=n5_
        have BK204:=n6_
        have HB:=n7_
        clear n0_ n1_ n2_ n3_ n4_ n5_ n6_ n7_
        (try clear hb)
        (try clear hb2)
        (try clear hk)
        (try clear hi)
        refine hK.out _ _ ⟨(blk_cell BK204.out 0).trans rfl,(blk_cell BK204.out 1).trans rfl,(blk_cell BK204.out 2).trans rfl,(blk_cell BK184.out 0).trans rfl,(blk_cell BK184.out 1).trans rfl⟩ (fun hHeld=>?_)
        clear hK K
        refine norm_ (a':=?_) ?_ ?_
        rotate_left
        · show Act.put _ (some 29) _=_
          simp only [Act.put,List.setIfInBounds_toArray,List.set_cons_zero,List.set_cons_succ,i64_w,i32_w]
          rfl
        refine pure_ (i:=4) (N:=some 8) (v:=?_) (a':=?_) #[true,true,true,true,true] rfl rfl (by kernel_rfl) (fun _ _ _ h=>h) (Or.inl ⟨by rfl,?_⟩) ?_ ?_
        rotate_left
        · intro w'
          go_simp
          with_reducible rfl
        rotate_left
        · simp only [Act.put,List.setIfInBounds_toArray,List.set_cons_zero,List.set_cons_succ,i64_w,i32_w]
          rfl
        refine done_ (by kernel_rfl) ?_
        try go_wp2
        go_ret
        exact ⟨by first|rfl|(simp [errW_none,errW_some]<;>rfl)|(simp [*,errW_none,errW_some]<;>rfl),by repeat (first|(with_reducible first|exact HB.out|apply below_alloc|apply pw_below_drewN|apply below_drew1|refine below_set ?_ GE183.out|refine below_set ?_ GE184.out|refine below_set ?_ GE204.out)|exact HB.out)⟩
      · rw [if_neg c25] at H
        have c25b0:(t207 != t196)=false:=by simpa using c25
        (try (have c25b1:decide (t207=t196)=true:=by simpa using c25))
        (try (have c25b2:(t207==t196)=true:=by simpa using c25))
        clear c25
        replace H:=Option.bind_eq_some_iff.mp H
        obtain ⟨⟨t208,t209,t212⟩,A510,H⟩:=H
        replace H:((laws_eqConf.f k t197 t198 t201 t208 t209 t212).bind fun t215=>(if t215=true then (some true) else (some false)))=some r:=H
        have A51:=Aside0.mk A510
        clear A510
        replace H:=Option.bind_eq_some_iff.mp H
        obtain ⟨t215,A520,H⟩:=H
        replace H:(if t215=true then (some true) else (some false))=some r:=H
        have A52:=Aside0.mk A520
        clear A520
        by_cases c53:t215=true
        · subst c53
          have H1:(some true)=some r:=by rw [if_pos rfl] at H;exact H
          clear H
          have H:=H1
          clear H1
          obtain rfl:=Option.some.inj H
          go_enter Tryd.func5,Tryd.ntmps5
          try go_wp2_with (first|((with_reducible refine gate_dst (N:=2) rfl ?_);refine box_event ?hg (N:=2) ?hd (cs:=#[.string a0_0,.slice A0_1 l0_1.length c0_1,.slice A0_2 l0_2.length c0_2]) (t:=39) ?hr ?_;(case hd=>rfl);(case hg=>rfl);(case hr=>first|(go_simp;done)|(go_simp;rfl));intro gb183 hg w54 hbox hb;have n0_:=Aside0.mk (below_step (by repeat (first|(with_reducible first|exact HB.out|apply below_alloc|apply pw_below_drewN|apply below_drew1)|exact HB.out)) hb);have n1_:=Aside0.mk (hbox);have n2_:=Aside0.mk ((by rw [hg];exact (below_size (by repeat (first|(with_reducible first|exact HB.out|apply below_alloc|apply pw_below_drewN|apply below_drew1)|exact HB.out))):w.heap.size≤gb183));have n3_:=Aside0.mk ((by rw [hg];exact (below_size (by repeat (first|(with_reducible first|exact HB.out|apply below_alloc|apply pw_below_drewN|apply below_drew1)|exact HB.out))):w.heap.size≤gb183));clear HB;have HB:=n0_;have BK183:=n1_;have GW183:=n2_;have GE183:=n3_;clear n0_ n1_ n2_ n3_;clear hb hbox hg)|((with_reducible refine gate_dst (N:=3) rfl ?_);refine box_event ?hg (N:=3) ?hd (cs:=#[.string a1_0,.string a1_1]) (t:=23) ?hr ?_;(case hd=>rfl);(case hg=>rfl);(case hr=>first|(go_simp;done)|(go_simp;rfl));intro gb184 hg w55 hbox hb;have n0_:=Aside0.mk (blk_below (g:=gb183) (o:=.cells #[.string a0_0,.slice A0_1 l0_1.length c0_1,.slice A0_2 l0_2.length c0_2] 39 (0,0)) (by (with_reducible repeat (first|refine blk_drewN ?_ _|refine blk_drew ?_|refine blk_alloc ?_ _));exact BK183.out) hb);have n1_:=Aside0.mk (below_step (by repeat (first|(with_reducible first|exact HB.out|apply below_alloc|apply pw_below_drewN|apply below_drew1|refine below_set ?_ GE183.out)|exact HB.out)) hb);have n2_:=Aside0.mk (hbox);have n3_:=Aside0.mk ((by rw [hg];exact (below_size (by repeat (first|(with_reducible first|exact HB.out|apply below_alloc|apply pw_below_drewN|apply below_drew1|refine below_set ?_ GE183.out)|exact HB.out))):w.heap.size≤gb184));have n4_:=Aside0.mk ((by rw [hg];exact (below_size (by repeat (first|(with_reducible first|exact HB.out|apply below_alloc|apply pw_below_drewN|apply below_drew1|refine below_set ?_ GE183.out)|exact HB.out))):w.heap.size≤gb184));have n5_:=Aside0.mk ((by rw [hg];exact Nat.ne_of_lt (blk_lt (g:=gb183) (o:=.cells #[.string a0_0,.slice A0_1 l0_1.length c0_1,.slice A0_2 l0_2.length c0_2] 39 (0,0)) (by (with_reducible repeat (first|refine blk_drewN ?_ _|refine blk_drew ?_|refine blk_alloc ?_ _));exact BK183.out)):gb183≠gb184));have n6_:=Aside0.mk ((by rw [hg];exact Nat.ne_of_gt (blk_lt (g:=gb183) (o:=.cells #[.string a0_0,.slice A0_1 l0_1.length c0_1,.slice A0_2 l0_2.length c0_2] 39 (0,0)) (by (with_reducible repeat (first|refine blk_drewN ?_ _|refine blk_drew ?_|refine blk_alloc ?_ _));exact BK183.out)):gb184≠gb183));clear BK183;clear HB;have BK183:=n0_;have HB:=n1_;have BK184:=n2_;have GW184:=n3_;have GE184:=n4_;have NB183_184:=n5_;have NB184_183:=n6_;clear n0_ n1_ n2_ n3_ n4_ n5_ n6_;clear hb hbox hg;have hnb56:=NB183_184.out;have hnc56:=NB184_183.out;have hcz57_0:w55.cell? ⟨gb183,0,none⟩=some (.string a0_0):=(blk_cell BK183.out 0).trans rfl;have hcz57_1:w55.cell? ⟨gb183,1,none⟩=some (.slice A0_1 l0_1.length c0_1):=(blk_cell BK183.out 1).trans rfl;have hcz57_2:w55.cell? ⟨gb183,2,none⟩=some (.slice A0_2 l0_2.length c0_2):=(blk_cell BK183.out 2).trans rfl;have hfz57_0:=blk_frozen BK183.out 0;have hfz57_1:=blk_frozen BK183.out 1;have hfz57_2:=blk_frozen BK183.out 2)|((with_reducible refine gate_callee (f:=15) rfl ?_);refine goesL_ (some 11) rfl rfl Tryd.func15 (by kernel_rfl) rfl #[.agg #[.string a0_0,.slice A0_1 l0_1.length c0_1,.slice A0_2 l0_2.length c0_2],.int .i64 1048576] rfl (by (try simp only [List.map_toArray,List.map_cons,List.map_nil]);first|done|rfl|(simp only [List.length_drop,List.length_take];rfl)) ?_;(with_reducible refine (laws_szConf.calls k a0_0 _ _ l0_1 _ _ l0_2 1048576 t185 _ ?side1 ?side2 ?side3 ?side4 A3.out).mono ?_);(case side1=>repeat (first|exact (Kd.C_below HR0_1.out HB.out)|(with_reducible refine Kd.C_alloc ?_ _)|(with_reducible refine Kd.C_drewN ?_ _)|(with_reducible refine Kd.C_drew ?_)));(case side2=>exact HC0_1.out);(case side3=>repeat (first|exact (Kd.C_below HR0_2.out HB.out)|(with_reducible refine Kd.C_alloc ?_ _)|(with_reducible refine Kd.C_drewN ?_ _)|(with_reducible refine Kd.C_drew ?_)));(case side4=>exact HC0_2.out);rintro e w58 ⟨rfl,hb⟩;refine ⟨_,rfl,?_⟩;have n0_:=Aside0.mk (blk_below (g:=gb183) (o:=.cells #[.string a0_0,.slice A0_1 l0_1.length c0_1,.slice A0_2 l0_2.length c0_2] 39 (0,0)) (by (with_reducible repeat (first|refine blk_drewN ?_ _|refine blk_drew ?_|refine blk_alloc ?_ _));exact BK183.out) hb);have n1_:=Aside0.mk (blk_below (g:=gb184) (o:=.cells #[.string a1_0,.string a1_1] 23 (0,0)) (by (with_reducible repeat (first|refine blk_drewN ?_ _|refine blk_drew ?_|refine blk_alloc ?_ _));exact BK184.out) hb);have n2_:=Aside0.mk (below_step (by repeat (first|(with_reducible first|exact HB.out|apply below_alloc|apply pw_below_drewN|apply below_drew1|refine below_set ?_ GE183.out|refine below_set ?_ GE184.out)|exact HB.out)) hb);clear BK183;clear BK184;clear HB;have BK183:=n0_;have BK184:=n1_;have HB:=n2_;clear n0_ n1_ n2_;(try clear hb);(try clear hb2);(try clear hk);(try clear hi);have hcz59_0:w58.cell? ⟨gb184,0,none⟩=some (.string a1_0):=(blk_cell BK184.out 0).trans rfl;have hcz59_1:w58.cell? ⟨gb184,1,none⟩=some (.string a1_1):=(blk_cell BK184.out 1).trans rfl;have hfz59_0:=blk_frozen BK184.out 0;have hfz59_1:=blk_frozen BK184.out 1)|((with_reducible refine gate_callee (f:=20) rfl ?_);refine goesL_ (some 16) rfl rfl Tryd.func20 (by kernel_rfl) rfl #[.agg #[.string a1_0,.string a1_1],.int .i64 t185] rfl (by (try simp only [List.map_toArray,List.map_cons,List.map_nil]);first|done|rfl|(simp only [List.length_drop,List.length_take];rfl)) ?_;(with_reducible refine (laws_szAddr.calls a1_0 a1_1 t185 t186 _ A10.out).mono ?_);rintro e w60 ⟨rfl,hb⟩;refine ⟨_,rfl,?_⟩;have n0_:=Aside0.mk (blk_below (g:=gb183) (o:=.cells #[.string a0_0,.slice A0_1 l0_1.length c0_1,.slice A0_2 l0_2.length c0_2] 39 (0,0)) (by (with_reducible repeat (first|refine blk_drewN ?_ _|refine blk_drew ?_|refine blk_alloc ?_ _));exact BK183.out) hb);have n1_:=Aside0.mk (blk_below (g:=gb184) (o:=.cells #[.string a1_0,.string a1_1] 23 (0,0)) (by (with_reducible repeat (first|refine blk_drewN ?_ _|refine blk_drew ?_|refine blk_alloc ?_ _));exact BK184.out) hb);have n2_:=Aside0.mk (below_step (by repeat (first|(with_reducible first|exact HB.out|apply below_alloc|apply pw_below_drewN|apply below_drew1|refine below_set ?_ GE183.out|refine below_set ?_ GE184.out)|exact HB.out)) hb);clear BK183;clear BK184;clear HB;have BK183:=n0_;have BK184:=n1_;have HB:=n2_;clear n0_ n1_ n2_;(try clear hb);(try clear hb2);(try clear hk);(try clear hi)))
          have n0_:=Aside0.mk (blk_drew BK183.out)
          have n1_:=Aside0.mk (blk_drew BK184.out)
          have n2_:=Aside0.mk (below_drew1 HB.out)
          clear BK183
          clear BK184
          clear HB
          have BK183:=n0_
          have BK184:=n1_
          have HB:=n2_
          clear n0_ n1_ n2_
          refine start_ (n:=6) (S:=fun w'=>w'.cell? ⟨gb183,0,none⟩=some (.string a0_0)∧w'.cell? ⟨gb183,1,none⟩=some (.slice A0_1 l0_1.length c0_1)∧w'.cell? ⟨gb183,2,none⟩=some (.slice A0_2 l0_2.length c0_2)∧w'.cell? ⟨gb184,0,none⟩=some (.string a1_0)∧w'.cell? ⟨gb184,1,none⟩=some (.string a1_1)) (ds:=[]) #[false,false,false,false,false,false] (by kernel_rfl) rfl rfl ⟨(blk_cell BK183.out 0).trans rfl,(blk_cell BK183.out 1).trans rfl,(blk_cell BK183.out 2).trans rfl,(blk_cell BK184.out 0).trans rfl,(blk_cell BK184.out 1).trans rfl⟩ (fun hHeld=>?_)
          generalize w60.drew=w61 at BK183 BK184 HB hHeld ⊢
          refine take_ (i:=0) (N:=some 19) (v:=?_) (a':=?_) #[true,false,false,false,false,false] rfl rfl (by kernel_rfl) (fun _ _ _ h=>h) (Or.inl ⟨by rfl,?_⟩) hHeld ?_ ?_
          rotate_left
          · rintro w' ⟨s0,s1,s2,s3,s4⟩
            go_simp
            with_reducible rfl
          rotate_left
          · simp only [Act.put,List.setIfInBounds_toArray,List.set_cons_zero,List.set_cons_succ,i64_w,i32_w]
            rfl
          refine take_ (i:=2) (N:=some 21) (v:=?_) (a':=?_) #[true,false,true,false,false,false] rfl rfl (by kernel_rfl) (fun _ _ _ h=>h) (Or.inl ⟨by rfl,?_⟩) hHeld ?_ ?_
          rotate_left
          · rintro w' ⟨s0,s1,s2,s3,s4⟩
            go_simp
            with_reducible rfl
          rotate_left
          · simp only [Act.put,List.setIfInBounds_toArray,List.set_cons_zero,List.set_cons_succ,i64_w,i32_w]
            rfl
          refine one_ (i:=1) (N:=some 20) #[true,true,true,false,false,false] rfl rfl (by kernel_rfl) (by decide) (fun K hK=>?_)
          refine goes_ Tryd.func17 (by kernel_rfl) rfl #[.agg #[.string a0_0,.slice A0_1 l0_1.length c0_1,.slice A0_2 l0_2.length c0_2]] (by rfl) rfl rfl (by (try simp only [List.map_toArray,List.map_cons,List.map_nil]);first|done|rfl|(simp only [List.length_drop,List.length_take];rfl)) ?_
          with_reducible refine (laws_toConf.calls k a0_0 _ _ l0_1 _ _ l0_2 t187 t188 t191 _ ?side1 ?side2 ?side3 ?side4 A19.out).mono ?_
          (case side1=>repeat (first|exact (Kd.C_below HR0_1.out HB.out)|(with_reducible refine Kd.C_alloc ?_ _)|(with_reducible refine Kd.C_drewN ?_ _)|(with_reducible refine Kd.C_drew ?_)))
          (case side2=>exact HC0_1.out)
          (case side3=>repeat (first|exact (Kd.C_below HR0_2.out HB.out)|(with_reducible refine Kd.C_alloc ?_ _)|(with_reducible refine Kd.C_drewN ?_ _)|(with_reducible refine Kd.C_drew ?_)))
          (case side4=>exact HC0_2.out)
          rintro e w62 ⟨v189,v192,rfl,ho0,ho1,hb⟩
          refine ⟨_,rfl,?_⟩
          have n0_:=Aside0.mk (Kd.R_lower ho0 (below_size (by repeat (first|(with_reducible first|exact HB.out|apply below_alloc|apply pw_below_drewN|apply below_drew1|refine below_set ?_ GE183.out|refine below_set ?_ GE184.out)|exact HB.out))))
          have n1_:=Aside0.mk (Kd.R_lower ho1 (below_size (by repeat (first|(with_reducible first|exact HB.out|apply below_alloc|apply pw_below_drewN|apply below_drew1|refine below_set ?_ GE183.out|refine below_set ?_ GE184.out)|exact HB.out))))
          have n2_:=Aside0.mk (blk_below (g:=gb183) (o:=.cells #[.string a0_0,.slice A0_1 l0_1.length c0_1,.slice A0_2 l0_2.length c0_2] 39 (0,0)) (by (with_reducible repeat (first|refine blk_drewN ?_ _|refine blk_drew ?_|refine blk_alloc ?_ _));exact BK183.out) hb)
          have n3_:=Aside0.mk (blk_below (g:=gb184) (o:=.cells #[.string a1_0,.string a1_1] 23 (0,0)) (by (with_reducible repeat (first|refine blk_drewN ?_ _|refine blk_drew ?_|refine blk_alloc ?_ _));exact BK184.out) hb)
          have n4_:=Aside0.mk (below_step (by repeat (first|(with_reducible first|exact HB.out|apply below_alloc|apply pw_below_drewN|apply below_drew1|refine below_set ?_ GE183.out|refine below_set ?_ GE184.out)|exact HB.out)) hb)
          clear BK183
          clear BK184
          clear HB
          have HO190:=n0_
          have HO193:=n1_
          have BK183:=n2_
          have BK184:=n3_
          have HB:=n4_
          clear n0_ n1_ n2_ n3_ n4_
          (try clear hb)
          (try clear hb2)
          (try clear hk)
          (try clear hi)
          (try clear ho0)
          (try clear ho1)
          refine hK.out _ _ ⟨(blk_cell BK183.out 0).trans rfl,(blk_cell BK183.out 1).trans rfl,(blk_cell BK183.out 2).trans rfl,(blk_cell BK184.out 0).trans rfl,(blk_cell BK184.out 1).trans rfl⟩ (fun hHeld=>?_)
          clear hK K
          refine norm_ (a':=?_) ?_ ?_
          rotate_left
          · show Act.put _ (some 20) _=_
            simp only [Act.put,List.setIfInBounds_toArray,List.set_cons_zero,List.set_cons_succ,i64_w,i32_w]
            rfl
          refine one_ (i:=3) (N:=some 22) #[true,true,true,true,false,false] rfl rfl (by kernel_rfl) (by decide) (fun K hK=>?_)
          refine goes_ Tryd.func22 (by kernel_rfl) rfl #[.agg #[.string a1_0,.string a1_1]] (by rfl) rfl rfl (by (try simp only [List.map_toArray,List.map_cons,List.map_nil]);first|done|rfl|(simp only [List.length_drop,List.length_take];rfl)) ?_
          with_reducible refine (laws_toAddr.calls a1_0 a1_1 t194 t195 _ A20.out).mono ?_
          rintro e w63 ⟨rfl,hb⟩
          refine ⟨_,rfl,?_⟩
          have n0_:=Aside0.mk (Kd.R_below (by (with_reducible repeat (first|apply Kd.R_alloc|apply Kd.R_drewN|apply Kd.R_drew));exact HO190.out) hb)
          have n1_:=Aside0.mk (Kd.R_below (by (with_reducible repeat (first|apply Kd.R_alloc|apply Kd.R_drewN|apply Kd.R_drew));exact HO193.out) hb)
          have n2_:=Aside0.mk (blk_below (g:=gb183) (o:=.cells #[.string a0_0,.slice A0_1 l0_1.length c0_1,.slice A0_2 l0_2.length c0_2] 39 (0,0)) (by (with_reducible repeat (first|refine blk_drewN ?_ _|refine blk_drew ?_|refine blk_alloc ?_ _));exact BK183.out) hb)
          have n3_:=Aside0.mk (blk_below (g:=gb184) (o:=.cells #[.string a1_0,.string a1_1] 23 (0,0)) (by (with_reducible repeat (first|refine blk_drewN ?_ _|refine blk_drew ?_|refine blk_alloc ?_ _));exact BK184.out) hb)
          have n4_:=Aside0.mk (below_step (by repeat (first|(with_reducible first|exact HB.out|apply below_alloc|apply pw_below_drewN|apply below_drew1|refine below_set ?_ GE183.out|refine below_set ?_ GE184.out)|exact HB.out)) hb)
          clear HO190
          clear HO193
          clear BK183
          clear BK184
          clear HB
          have HO190:=n0_
          have HO193:=n1_
          have BK183:=n2_
          have BK184:=n3_
          have HB:=n4_
          clear n0_ n1_ n2_ n3_ n4_
          (try clear hb)
          (try clear hb2)
          (try clear hk)
          (try clear hi)
          obtain ⟨Ao64,co64,eo64⟩:=Kd.R_slice HO190.out
          (first|subst eo64|(injection eo64 with f1_ f2_ f3_;have f4_:=f1_.symm;have f5_:=f3_.symm;clear f1_ f2_ f3_;subst f4_;subst f5_))
          obtain ⟨Ao65,co65,eo65⟩:=Kd.R_slice HO193.out
          (first|subst eo65|(injection eo65 with f1_ f2_ f3_;have f4_:=f1_.symm;have f5_:=f3_.symm;clear f1_ f2_ f3_;subst f4_;subst f5_))
          refine hK.out _ _ ⟨(blk_cell BK183.out 0).trans rfl,(blk_cell BK183.out 1).trans rfl,(blk_cell BK183.out 2).trans rfl,(blk_cell BK184.out 0).trans rfl,(blk_cell BK184.out 1).trans rfl⟩ (fun hHeld=>?_)
          clear hK K
          refine norm_ (a':=?_) ?_ ?_
          rotate_left
          · show Act.put _ (some 22) _=_
            simp only [Act.put,List.setIfInBounds_toArray,List.set_cons_zero,List.set_cons_succ,i64_w,i32_w]
            rfl
          refine one_ (i:=4) (N:=some 23) #[true,true,true,true,true,false] rfl rfl (by kernel_rfl) (by decide) (fun K hK=>?_)
          refine goes_ Tryd.func21 (by kernel_rfl) rfl #[.agg #[.string t187,.slice Ao64 t188.length co64,.slice Ao65 t191.length co65],.agg #[.string t194,.string t195]] (by rfl) rfl rfl (by (try simp only [List.map_toArray,List.map_cons,List.map_nil]);first|done|rfl|(simp only [List.length_drop,List.length_take];rfl)) ?_
          with_reducible refine (spec_ConfTakes.calls k t187 _ _ t188 _ _ t191 t194 t195 t196 _ ?side1 ?side2 ?side3 ?side4 A21.out).mono ?_
          (case side1=>repeat (first|exact (Kd.R_reads' HO190.out).2.2|(with_reducible refine Kd.C_alloc ?_ _)|(with_reducible refine Kd.C_drewN ?_ _)|(with_reducible refine Kd.C_drew ?_)))
          (case side2=>exact (Kd.R_reads' HO190.out).2.1)
          (case side3=>repeat (first|exact (Kd.R_reads' HO193.out).2.2|(with_reducible refine Kd.C_alloc ?_ _)|(with_reducible refine Kd.C_drewN ?_ _)|(with_reducible refine Kd.C_drew ?_)))
          (case side4=>exact (Kd.R_reads' HO193.out).2.1)
          rintro e w66 ⟨rfl,hb⟩
          refine ⟨_,rfl,?_⟩
          have n0_:=Aside0.mk (Kd.R_below (by (with_reducible repeat (first|apply Kd.R_alloc|apply Kd.R_drewN|apply Kd.R_drew));exact HO190.out) hb)
          have n1_:=Aside0.mk (Kd.R_below (by (with_reducible repeat (first|apply Kd.R_alloc|apply Kd.R_drewN|apply Kd.R_drew));exact HO193.out) hb)
          have n2_:=Aside0.mk (blk_below (g:=gb183) (o:=.cells #[.string a0_0,.slice A0_1 l0_1.length c0_1,.slice A0_2 l0_2.length c0_2] 39 (0,0)) (by (with_reducible repeat (first|refine blk_drewN ?_ _|refine blk_drew ?_|refine blk_alloc ?_ _));exact BK183.out) hb)
          have n3_:=Aside0.mk (blk_below (g:=gb184) (o:=.cells #[.string a1_0,.string a1_1] 23 (0,0)) (by (with_reducible repeat (first|refine blk_drewN ?_ _|refine blk_drew ?_|refine blk_alloc ?_ _));exact BK184.out) hb)
          have n4_:=Aside0.mk (below_step (by repeat (first|(with_reducible first|exact HB.out|apply below_alloc|apply pw_below_drewN|apply below_drew1|refine below_set ?_ GE183.out|refine below_set ?_ GE184.out)|exact HB.out)) hb)
          clear HO190
          clear HO193
          clear BK183
          clear BK184
          clear HB
          have HO190:=n0_
          have HO193:=n1_
          have BK183:=n2_
          have BK184:=n3_
          have HB:=n4_
          clear n0_ n1_ n2_ n3_ n4_
          (try clear hb)
          (try clear hb2)
          (try clear hk)
          (try clear hi)
          refine hK.out _ _ ⟨(blk_cell BK183.out 0).trans rfl,(blk_cell BK183.out 1).trans rfl,(blk_cell BK183.out 2).trans rfl,(blk_cell BK184.out 0).trans rfl,(blk_cell BK184.out 1).trans rfl⟩ (fun hHeld=>?_)
          clear hK K
          refine norm_ (a':=?_) ?_ ?_
          rotate_left
          · show Act.put _ (some 23) _=_
            simp only [Act.put,List.setIfInBounds_toArray,List.set_cons_zero,List.set_cons_succ,i64_w,i32_w]
            rfl
          refine pure_ (i:=5) (N:=some 6) (v:=?_) (a':=?_) #[true,true,true,true,true,true] rfl rfl (by kernel_rfl) (fun _ _ _ h=>h) (Or.inl ⟨by rfl,?_⟩) ?_ ?_
          rotate_left
          · intro w'
            go_simp
            with_reducible rfl
          rotate_left
          · simp only [Act.put,List.setIfInBounds_toArray,List.set_cons_zero,List.set_cons_succ,i64_w,i32_w]
            rfl
          refine done_ (by kernel_rfl) ?_
          have hcz67_0:w66.cell? ⟨gb183,0,none⟩=some (.string a0_0):=(blk_cell BK183.out 0).trans rfl
          have hcz67_1:w66.cell? ⟨gb183,1,none⟩=some (.slice A0_1 l0_1.length c0_1):=(blk_cell BK183.out 1).trans rfl
          have hcz67_2:w66.cell? ⟨gb183,2,none⟩=some (.slice A0_2 l0_2.length c0_2):=(blk_cell BK183.out 2).trans rfl
          have hfz67_0:=blk_frozen BK183.out 0
          have hfz67_1:=blk_frozen BK183.out 1
          have hfz67_2:=blk_frozen BK183.out 2
          try go_wp2_with (first|((with_reducible refine gate_callee (f:=17) rfl ?_);refine goesL_ (some 25) rfl rfl Tryd.func17 (by kernel_rfl) rfl #[.agg #[.string a0_0,.slice A0_1 l0_1.length c0_1,.slice A0_2 l0_2.length c0_2]] rfl (by (try simp only [List.map_toArray,List.map_cons,List.map_nil]);first|done|rfl|(simp only [List.length_drop,List.length_take];rfl)) ?_;(with_reducible refine (laws_toConf.calls k a0_0 _ _ l0_1 _ _ l0_2 t197 t198 t201 _ ?side1 ?side2 ?side3 ?side4 A22.out).mono ?_);(case side1=>repeat (first|exact (Kd.C_below HR0_1.out HB.out)|(with_reducible refine Kd.C_alloc ?_ _)|(with_reducible refine Kd.C_drewN ?_ _)|(with_reducible refine Kd.C_drew ?_)));(case side2=>exact HC0_1.out);(case side3=>repeat (first|exact (Kd.C_below HR0_2.out HB.out)|(with_reducible refine Kd.C_alloc ?_ _)|(with_reducible refine Kd.C_drewN ?_ _)|(with_reducible refine Kd.C_drew ?_)));(case side4=>exact HC0_2.out);rintro e w68 ⟨v199,v202,rfl,ho0,ho1,hb⟩;refine ⟨_,rfl,?_⟩;have n0_:=Aside0.mk (Kd.R_elder' (by (with_reducible repeat (first|apply Kd.R_alloc|apply Kd.R_drewN|apply Kd.R_drew));exact HO190.out) (Kd.R_base ho0) hb);have n1_:=Aside0.mk (Kd.R_elder' (by (with_reducible repeat (first|apply Kd.R_alloc|apply Kd.R_drewN|apply Kd.R_drew));exact HO193.out) (Kd.R_base ho1) hb);have n2_:=Aside0.mk (Kd.R_lower (Kd.R_new' ho0 (Kd.R_lt (by (with_reducible repeat (first|apply Kd.R_alloc|apply Kd.R_drewN|apply Kd.R_drew));exact HO190.out))) (below_size (by repeat (first|(with_reducible first|exact HB.out|apply below_alloc|apply pw_below_drewN|apply below_drew1|refine below_set ?_ GE183.out|refine below_set ?_ GE184.out)|exact HB.out))));have n3_:=Aside0.mk (Kd.R_lower (Kd.R_new' ho1 (Kd.R_lt (by (with_reducible repeat (first|apply Kd.R_alloc|apply Kd.R_drewN|apply Kd.R_drew));exact HO193.out))) (below_size (by repeat (first|(with_reducible first|exact HB.out|apply below_alloc|apply pw_below_drewN|apply below_drew1|refine below_set ?_ GE183.out|refine below_set ?_ GE184.out)|exact HB.out))));have n4_:=Aside0.mk (blk_below (g:=gb183) (o:=.cells #[.string a0_0,.slice A0_1 l0_1.length c0_1,.slice A0_2 l0_2.length c0_2] 39 (0,0)) (by (with_reducible repeat (first|refine blk_drewN ?_ _|refine blk_drew ?_|refine blk_alloc ?_ _));exact BK183.out) hb);have n5_:=Aside0.mk (blk_below (g:=gb184) (o:=.cells #[.string a1_0,.string a1_1] 23 (0,0)) (by (with_reducible repeat (first|refine blk_drewN ?_ _|refine blk_drew ?_|refine blk_alloc ?_ _));exact BK184.out) hb);have n6_:=Aside0.mk (below_step (by repeat (first|(with_reducible first|exact HB.out|apply below_alloc|apply pw_below_drewN|apply below_drew1|refine below_set ?_ GE183.out|refine below_set ?_ GE184.out)|exact HB.out)) hb);clear HO190;clear HO193;clear BK183;clear BK184;clear HB;have HO190:=n0_;have HO193:=n1_;have HO200:=n2_;have HO203:=n3_;have BK183:=n4_;have BK184:=n5_;have HB:=n6_;clear n0_ n1_ n2_ n3_ n4_ n5_ n6_;(try clear hb);(try clear hb2);(try clear hk);(try clear hi);(try clear ho0);(try clear ho1))|((with_reducible refine gate_dst (N:=7) rfl ?_);refine box_event ?hg (N:=7) ?hd (cs:=#[.string (⟨#[]⟩:ByteArray),.slice none 0 0,.slice none 0 0]) (t:=44) ?hr ?_;(case hd=>rfl);(case hg=>rfl);(case hr=>first|(go_simp;done)|(go_simp;rfl));intro gb204 hg w69 hbox hb;have n0_:=Aside0.mk (Kd.R_below (by (with_reducible repeat (first|apply Kd.R_alloc|apply Kd.R_drewN|apply Kd.R_drew));exact HO190.out) hb);have n1_:=Aside0.mk (Kd.R_below (by (with_reducible repeat (first|apply Kd.R_alloc|apply Kd.R_drewN|apply Kd.R_drew));exact HO193.out) hb);have n2_:=Aside0.mk (Kd.R_below (by (with_reducible repeat (first|apply Kd.R_alloc|apply Kd.R_drewN|apply Kd.R_drew));exact HO200.out) hb);have n3_:=Aside0.mk (Kd.R_below (by (with_reducible repeat (first|apply Kd.R_alloc|apply Kd.R_drewN|apply Kd.R_drew));exact HO203.out) hb);have n4_:=Aside0.mk (blk_below (g:=gb183) (o:=.cells #[.string a0_0,.slice A0_1 l0_1.length c0_1,.slice A0_2 l0_2.length c0_2] 39 (0,0)) (by (with_reducible repeat (first|refine blk_drewN ?_ _|refine blk_drew ?_|refine blk_alloc ?_ _));exact BK183.out) hb);have n5_:=Aside0.mk (blk_below (g:=gb184) (o:=.cells #[.string a1_0,.string a1_1] 23 (0,0)) (by (with_reducible repeat (first|refine blk_drewN ?_ _|refine blk_drew ?_|refine blk_alloc ?_ _));exact BK184.out) hb);have n6_:=Aside0.mk (below_step (by repeat (first|(with_reducible first|exact HB.out|apply below_alloc|apply pw_below_drewN|apply below_drew1|refine below_set ?_ GE183.out|refine below_set ?_ GE184.out)|exact HB.out)) hb);have n7_:=Aside0.mk (hbox);have n8_:=Aside0.mk ((by rw [hg];exact (below_size (by repeat (first|(with_reducible first|exact HB.out|apply below_alloc|apply pw_below_drewN|apply below_drew1|refine below_set ?_ GE183.out|refine below_set ?_ GE184.out)|exact HB.out))):w.heap.size≤gb204));have n9_:=Aside0.mk ((by rw [hg];exact (below_size (by repeat (first|(with_reducible first|exact HB.out|apply below_alloc|apply pw_below_drewN|apply below_drew1|refine below_set ?_ GE183.out|refine below_set ?_ GE184.out)|exact HB.out))):w.heap.size≤gb204));have n10_:=Aside0.mk ((by rw [hg];exact Nat.ne_of_lt (blk_lt (g:=gb183) (o:=.cells #[.string a0_0,.slice A0_1 l0_1.length c0_1,.slice A0_2 l0_2.length c0_2] 39 (0,0)) (by (with_reducible repeat (first|refine blk_drewN ?_ _|refine blk_drew ?_|refine blk_alloc ?_ _));exact BK183.out)):gb183≠gb204));have n11_:=Aside0.mk ((by rw [hg];exact Nat.ne_of_gt (blk_lt (g:=gb183) (o:=.cells #[.string a0_0,.slice A0_1 l0_1.length c0_1,.slice A0_2 l0_2.length c0_2] 39 (0,0)) (by (with_reducible repeat (first|refine blk_drewN ?_ _|refine blk_drew ?_|refine blk_alloc ?_ _));exact BK183.out)):gb204≠gb183));have n12_:=Aside0.mk ((by rw [hg];exact Nat.ne_of_lt (blk_lt (g:=gb184) (o:=.cells #[.string a1_0,.string a1_1] 23 (0,0)) (by (with_reducible repeat (first|refine blk_drewN ?_ _|refine blk_drew ?_|refine blk_alloc ?_ _));exact BK184.out)):gb184≠gb204));have n13_:=Aside0.mk ((by rw [hg];exact Nat.ne_of_gt (blk_lt (g:=gb184) (o:=.cells #[.string a1_0,.string a1_1] 23 (0,0)) (by (with_reducible repeat (first|refine blk_drewN ?_ _|refine blk_drew ?_|refine blk_alloc ?_ _));exact BK184.out)):gb204≠gb184));clear HO190;clear HO193;clear HO200;clear HO203;clear BK183;clear BK184;clear HB;have HO190:=n0_;have HO193:=n1_;have HO200:=n2_;have HO203:=n3_;have BK183:=n4_;have BK184:=n5_;have HB:=n6_;have BK204:=n7_;have GW204:=n8_;have GE204:=n9_;have NB183_204:=n10_;have NB204_183:=n11_;have NB184_204:=n12_;have NB204_184:=n13_;clear n0_ n1_ n2_ n3_ n4_ n5_ n6_ n7_ n8_ n9_ n10_ n11_ n12_ n13_;clear hb hbox hg;have hnb70:=NB204_183.out;have hnc70:=NB183_204.out;have hnb71:=NB204_184.out;have hnc71:=NB184_204.out;have hcz72_0:w69.cell? ⟨gb204,0,none⟩=some (.string (⟨#[]⟩:ByteArray)):=(blk_cell BK204.out 0).trans rfl;have hcz72_1:w69.cell? ⟨gb204,1,none⟩=some (.slice none 0 0):=(blk_cell BK204.out 1).trans rfl;have hcz72_2:w69.cell? ⟨gb204,2,none⟩=some (.slice none 0 0):=(blk_cell BK204.out 2).trans rfl;have hfz72_0:=blk_frozen BK204.out 0;have hfz72_1:=blk_frozen BK204.out 1;have hfz72_2:=blk_frozen BK204.out 2;obtain ⟨Ao73,co73,eo73⟩:=Kd.R_slice HO200.out;subst eo73;obtain ⟨Ao74,co74,eo74⟩:=Kd.R_slice HO203.out;subst eo74))
          have n0_:Aside0 (Kd.R Kd.string 9 (((w69.setCell ⟨gb204,0,none⟩ (.string t197)).setCell ⟨gb204,1,none⟩ (.slice Ao73 t198.length co73)).setCell ⟨gb204,2,none⟩ (.slice Ao74 t201.length co74)) w.heap.size (fun k_=>some k_≠(.slice Ao73 t198.length co73:Value).ownBlock) (.slice Ao64 t188.length co64) t188):=⟨by (with_reducible repeat (first|apply Kd.R_alloc|apply Kd.R_drewN|apply Kd.R_drew));exact Kd.R_mono (Kd.R_far (p:=⟨gb204,2,none⟩) (Kd.R_far (p:=⟨gb204,1,none⟩) (Kd.R_far (p:=⟨gb204,0,none⟩) (Kd.R_types HO190.out BK204.out (by decide)) (fun _ hk=>hk.2) (.string t197)) (fun _ hk=>hk.2) (.slice Ao73 t198.length co73)) (fun _ hk=>hk.2) (.slice Ao74 t201.length co74)) (fun _ hk=>hk.1.2)⟩
          have n1_:Aside0 (Kd.R k117 117 (((w69.setCell ⟨gb204,0,none⟩ (.string t197)).setCell ⟨gb204,1,none⟩ (.slice Ao73 t198.length co73)).setCell ⟨gb204,2,none⟩ (.slice Ao74 t201.length co74)) w.heap.size (fun k_=>some k_≠(.slice Ao74 t201.length co74:Value).ownBlock) (.slice Ao65 t191.length co65) t191):=⟨by (with_reducible repeat (first|apply Kd.R_alloc|apply Kd.R_drewN|apply Kd.R_drew));exact Kd.R_mono (Kd.R_far (p:=⟨gb204,2,none⟩) (Kd.R_far (p:=⟨gb204,1,none⟩) (Kd.R_far (p:=⟨gb204,0,none⟩) (Kd.R_types HO193.out BK204.out (by decide)) (fun _ hk=>hk.2) (.string t197)) (fun _ hk=>hk.2) (.slice Ao73 t198.length co73)) (fun _ hk=>hk.2) (.slice Ao74 t201.length co74)) (fun _ hk=>hk.1.2)⟩
          have n2_:Aside0 (Kd.R Kd.string 9 (((w69.setCell ⟨gb204,0,none⟩ (.string t197)).setCell ⟨gb204,1,none⟩ (.slice Ao73 t198.length co73)).setCell ⟨gb204,2,none⟩ (.slice Ao74 t201.length co74)) w.heap.size (fun k_=>some k_≠(.slice Ao64 t188.length co64:Value).ownBlock) (.slice Ao73 t198.length co73) t198):=⟨by (with_reducible repeat (first|apply Kd.R_alloc|apply Kd.R_drewN|apply Kd.R_drew));exact Kd.R_mono (Kd.R_far (p:=⟨gb204,2,none⟩) (Kd.R_far (p:=⟨gb204,1,none⟩) (Kd.R_far (p:=⟨gb204,0,none⟩) (Kd.R_types HO200.out BK204.out (by decide)) (fun _ hk=>hk.2) (.string t197)) (fun _ hk=>hk.2) (.slice Ao73 t198.length co73)) (fun _ hk=>hk.2) (.slice Ao74 t201.length co74)) (fun _ hk=>hk.1.2)⟩
          have n3_:Aside0 (Kd.R k117 117 (((w69.setCell ⟨gb204,0,none⟩ (.string t197)).setCell ⟨gb204,1,none⟩ (.slice Ao73 t198.length co73)).setCell ⟨gb204,2,none⟩ (.slice Ao74 t201.length co74)) w.heap.size (fun k_=>some k_≠(.slice Ao65 t191.length co65:Value).ownBlock) (.slice Ao74 t201.length co74) t201):=⟨by (with_reducible repeat (first|apply Kd.R_alloc|apply Kd.R_drewN|apply Kd.R_drew));exact Kd.R_mono (Kd.R_far (p:=⟨gb204,2,none⟩) (Kd.R_far (p:=⟨gb204,1,none⟩) (Kd.R_far (p:=⟨gb204,0,none⟩) (Kd.R_types HO203.out BK204.out (by decide)) (fun _ hk=>hk.2) (.string t197)) (fun _ hk=>hk.2) (.slice Ao73 t198.length co73)) (fun _ hk=>hk.2) (.slice Ao74 t201.length co74)) (fun _ hk=>hk.1.2)⟩
          have n4_:Aside0 ((((w69.setCell ⟨gb204,0,none⟩ (.string t197)).setCell ⟨gb204,1,none⟩ (.slice Ao73 t198.length co73)).setCell ⟨gb204,2,none⟩ (.slice Ao74 t201.length co74)).heap[gb183]?=some (.cells #[.string a0_0,.slice A0_1 l0_1.length c0_1,.slice A0_2 l0_2.length c0_2] 39 (0,0))):=⟨by (with_reducible repeat (first|refine blk_drewN ?_ _|refine blk_drew ?_|refine blk_alloc ?_ _));refine blk_far ?_ NB183_204.out _;(with_reducible repeat (first|refine blk_drewN ?_ _|refine blk_drew ?_|refine blk_alloc ?_ _));refine blk_far ?_ NB183_204.out _;(with_reducible repeat (first|refine blk_drewN ?_ _|refine blk_drew ?_|refine blk_alloc ?_ _));refine blk_far ?_ NB183_204.out _;(with_reducible repeat (first|refine blk_drewN ?_ _|refine blk_drew ?_|refine blk_alloc ?_ _));exact BK183.out⟩
          have n5_:Aside0 ((((w69.setCell ⟨gb204,0,none⟩ (.string t197)).setCell ⟨gb204,1,none⟩ (.slice Ao73 t198.length co73)).setCell ⟨gb204,2,none⟩ (.slice Ao74 t201.length co74)).heap[gb184]?=some (.cells #[.string a1_0,.string a1_1] 23 (0,0))):=⟨by (with_reducible repeat (first|refine blk_drewN ?_ _|refine blk_drew ?_|refine blk_alloc ?_ _));refine blk_far ?_ NB184_204.out _;(with_reducible repeat (first|refine blk_drewN ?_ _|refine blk_drew ?_|refine blk_alloc ?_ _));refine blk_far ?_ NB184_204.out _;(with_reducible repeat (first|refine blk_drewN ?_ _|refine blk_drew ?_|refine blk_alloc ?_ _));refine blk_far ?_ NB184_204.out _;(with_reducible repeat (first|refine blk_drewN ?_ _|refine blk_drew ?_|refine blk_alloc ?_ _));exact BK184.out⟩
          have n6_:Aside0 ((((w69.setCell ⟨gb204,0,none⟩ (.string t197)).setCell ⟨gb204,1,none⟩ (.slice Ao73 t198.length co73)).setCell ⟨gb204,2,none⟩ (.slice Ao74 t201.length co74)).heap[gb204]?=some (.cells #[.string t197,.slice Ao73 t198.length co73,.slice Ao74 t201.length co74] 44 (0,0))):=⟨by (with_reducible repeat (first|refine blk_drewN ?_ _|refine blk_drew ?_|refine blk_alloc ?_ _));refine blk_put (cs:=#[.string t197,.slice Ao73 t198.length co73,.slice none 0 0]) ?_ 2 _ rfl;(with_reducible repeat (first|refine blk_drewN ?_ _|refine blk_drew ?_|refine blk_alloc ?_ _));refine blk_put (cs:=#[.string t197,.slice none 0 0,.slice none 0 0]) ?_ 1 _ rfl;(with_reducible repeat (first|refine blk_drewN ?_ _|refine blk_drew ?_|refine blk_alloc ?_ _));refine blk_put (cs:=#[.string (⟨#[]⟩:ByteArray),.slice none 0 0,.slice none 0 0]) ?_ 0 _ rfl;(with_reducible repeat (first|refine blk_drewN ?_ _|refine blk_drew ?_|refine blk_alloc ?_ _));exact BK204.out⟩
          have n7_:Aside0 (Below w.heap.size w (((w69.setCell ⟨gb204,0,none⟩ (.string t197)).setCell ⟨gb204,1,none⟩ (.slice Ao73 t198.length co73)).setCell ⟨gb204,2,none⟩ (.slice Ao74 t201.length co74))):=⟨by repeat (first|(with_reducible first|exact HB.out|apply below_alloc|apply pw_below_drewN|apply below_drew1|refine below_set ?_ GE183.out|refine below_set ?_ GE184.out|refine below_set ?_ GE204.out)|exact HB.out)⟩
          (try clear HO190)
          (try clear HO193)
          (try clear HO200)
          (try clear HO203)
          (try clear BK183)
          (try clear BK184)
          (try clear BK204)
          (try clear HB)
          generalize (((w69.setCell ⟨gb204,0,none⟩ (.string t197)).setCell ⟨gb204,1,none⟩ (.slice Ao73 t198.length co73)).setCell ⟨gb204,2,none⟩ (.slice Ao74 t201.length co74))=w75 at n0_ n1_ n2_ n3_ n4_ n5_ n6_ n7_ ⊢
          have HO190:=n0_
          have HO193:=n1_
          have HO200:=n2_
          have HO203:=n3_
          have BK183:=n4_
          have BK184:=n5_
          have BK204:=n6_
          have HB:=n7_
          clear n0_ n1_ n2_ n3_ n4_ n5_ n6_ n7_
          have n0_:=Aside0.mk (Kd.R_drew HO190.out)
          have n1_:=Aside0.mk (Kd.R_drew HO193.out)
          have n2_:=Aside0.mk (Kd.R_drew HO200.out)
          have n3_:=Aside0.mk (Kd.R_drew HO203.out)
          have n4_:=Aside0.mk (blk_drew BK183.out)
          have n5_:=Aside0.mk (blk_drew BK184.out)
          have n6_:=Aside0.mk (blk_drew BK204.out)
          have n7_:=Aside0.mk (below_drew1 HB.out)
          clear HO190
          clear HO193
          clear HO200
          clear HO203
          clear BK183
          clear BK184
          clear BK204
          clear HB
          have HO190:=n0_
          have HO193:=n1_
          have HO200:=n2_
          have HO203:=n3_
          have BK183:=n4_
          have BK184:=n5_
          have BK204:=n6_
          have HB:=n7_
          clear n0_ n1_ n2_ n3_ n4_ n5_ n6_ n7_
          refine start_ (n:=5) (S:=fun w'=>w'.cell? ⟨gb204,0,none⟩=some (.string t197)∧w'.cell? ⟨gb204,1,none⟩=some (.slice Ao73 t198.length co73)∧w'.cell? ⟨gb204,2,none⟩=some (.slice Ao74 t201.length co74)∧w'.cell? ⟨gb184,0,none⟩=some (.string a1_0)∧w'.cell? ⟨gb184,1,none⟩=some (.string a1_1)) (ds:=[]) #[false,false,false,false,false] (by kernel_rfl) rfl rfl ⟨(blk_cell BK204.out 0).trans rfl,(blk_cell BK204.out 1).trans rfl,(blk_cell BK204.out 2).trans rfl,(blk_cell BK184.out 0).trans rfl,(blk_cell BK184.out 1).trans rfl⟩ (fun hHeld=>?_)
          generalize w75.drew=w76 at HO190 HO193 HO200 HO203 BK183 BK184 BK204 HB hHeld ⊢
          refine take_ (i:=0) (N:=some 26) (v:=?_) (a':=?_) #[true,false,false,false,false] rfl rfl (by kernel_rfl) (fun _ _ _ h=>h) (Or.inl ⟨by rfl,?_⟩) hHeld ?_ ?_
          rotate_left
          · rintro w' ⟨s0,s1,s2,s3,s4⟩
            go_simp
            with_reducible rfl
          rotate_left
          · simp only [Act.put,List.setIfInBounds_toArray,List.set_cons_zero,List.set_cons_succ,i64_w,i32_w]
            rfl
          refine take_ (i:=1) (N:=some 27) (v:=?_) (a':=?_) #[true,true,false,false,false] rfl rfl (by kernel_rfl) (fun _ _ _ h=>h) (Or.inl ⟨by rfl,?_⟩) hHeld ?_ ?_
          rotate_left
          · rintro w' ⟨s0,s1,s2,s3,s4⟩
            go_simp
            with_reducible rfl
          rotate_left
          · simp only [Act.put,List.setIfInBounds_toArray,List.set_cons_zero,List.set_cons_succ,i64_w,i32_w]
            rfl
          refine one_ (i:=2) (N:=some 28) #[true,true,true,false,false] rfl rfl (by kernel_rfl) (by decide) (fun K hK=>?_)
          refine goes_ Tryd.func22 (by kernel_rfl) rfl #[.agg #[.string a1_0,.string a1_1]] (by rfl) rfl rfl (by (try simp only [List.map_toArray,List.map_cons,List.map_nil]);first|done|rfl|(simp only [List.length_drop,List.length_take];rfl)) ?_
          with_reducible refine (laws_toAddr.calls a1_0 a1_1 t205 t206 _ A23.out).mono ?_
          rintro e w77 ⟨rfl,hb⟩
          refine ⟨_,rfl,?_⟩
          have n0_:=Aside0.mk (Kd.R_below (by (with_reducible repeat (first|apply Kd.R_alloc|apply Kd.R_drewN|apply Kd.R_drew));exact HO190.out) hb)
          have n1_:=Aside0.mk (Kd.R_below (by (with_reducible repeat (first|apply Kd.R_alloc|apply Kd.R_drewN|apply Kd.R_drew));exact HO193.out) hb)
          have n2_:=Aside0.mk (Kd.R_below (by (with_reducible repeat (first|apply Kd.R_alloc|apply Kd.R_drewN|apply Kd.R_drew));exact HO200.out) hb)
          have n3_:=Aside0.mk (Kd.R_below (by (with_reducible repeat (first|apply Kd.R_alloc|apply Kd.R_drewN|apply Kd.R_drew));exact HO203.out) hb)
          have n4_:=Aside0.mk (blk_below (g:=gb183) (o:=.cells #[.string a0_0,.slice A0_1 l0_1.length c0_1,.slice A0_2 l0_2.length c0_2] 39 (0,0)) (by (with_reducible repeat (first|refine blk_drewN ?_ _|refine blk_drew ?_|refine blk_alloc ?_ _));exact BK183.out) hb)
          have n5_:=Aside0.mk (blk_below (g:=gb184) (o:=.cells #[.string a1_0,.string a1_1] 23 (0,0)) (by (with_reducible repeat (first|refine blk_drewN ?_ _|refine blk_drew ?_|refine blk_alloc ?_ _));exact BK184.out) hb)
          have n6_:=Aside0.mk (blk_below (g:=gb204) (o:=.cells #[.string t197,.slice Ao73 t198.length co73,.slice Ao74 t201.length co74] 44 (0,0)) (by (with_reducible repeat (first|refine blk_drewN ?_ _|refine blk_drew ?_|refine blk_alloc ?_ _));exact BK204.out) hb)
          have n7_:=Aside0.mk (below_step (by repeat (first|(with_reducible first|exact HB.out|apply below_alloc|apply pw_below_drewN|apply below_drew1|refine below_set ?_ GE183.out|refine below_set ?_ GE184.out|refine below_set ?_ GE204.out)|exact HB.out)) hb)
          clear HO190
          clear HO193
          clear HO200
          clear HO203
          clear BK183
          clear BK184
          clear BK204
          clear HB
          have HO190:=n0_
          have HO193:=n1_
          have HO200:=n2_
          have HO203:=n3_
          have BK183:=n4_
          have BK184:=n5_
          have BK204:=n6_
          have HB:=n7_
          clear n0_ n1_ n2_ n3_ n4_ n5_ n6_ n7_
          (try clear hb)
          (try clear hb2)
          (try clear hk)
          (try clear hi)
          refine hK.out _ _ ⟨(blk_cell BK204.out 0).trans rfl,(blk_cell BK204.out 1).trans rfl,(blk_cell BK204.out 2).trans rfl,(blk_cell BK184.out 0).trans rfl,(blk_cell BK184.out 1).trans rfl⟩ (fun hHeld=>?_)
          clear hK K
          refine norm_ (a':=?_) ?_ ?_
          rotate_left
          · show Act.put _ (some 28) _=_
            simp only [Act.put,List.setIfInBounds_toArray,List.set_cons_zero,List.set_cons_succ,i64_w,i32_w]
            rfl
          refine one_ (i:=3) (N:=some 29) #[true,true,true,true,false] rfl rfl (by kernel_rfl) (by decide) (fun K hK=>?_)
          refine goes_ Tryd.func23 (by kernel_rfl) rfl #[.agg #[.string t197,.slice Ao73 t198.length co73,.slice Ao74 t201.length co74],.agg #[.string t205,.string t206]] (by rfl) rfl rfl (by (try simp only [List.map_toArray,List.map_cons,List.map_nil]);first|done|rfl|(simp only [List.length_drop,List.length_take];rfl)) ?_
          with_reducible refine (impl_ConfTakes.calls k t197 _ _ t198 _ _ t201 t205 t206 t207 _ ?side1 ?side2 ?side3 ?side4 ?side5 A24.out).mono ?_
          (case side1=>repeat (first|exact (Kd.R_reads' HO200.out).2.2|(with_reducible refine Kd.C_alloc ?_ _)|(with_reducible refine Kd.C_drewN ?_ _)|(with_reducible refine Kd.C_drew ?_)))
          (case side2=>exact (Kd.R_reads' HO200.out).2.1)
          (case side3=>repeat (first|exact (Kd.R_reads' HO203.out).2.2|(with_reducible refine Kd.C_alloc ?_ _)|(with_reducible refine Kd.C_drewN ?_ _)|(with_reducible refine Kd.C_drew ?_)))
          (case side4=>exact (Kd.R_reads' HO203.out).2.1)
          (case side5=>first|(with_reducible exact HG.out)|((with_reducible repeat (first|exact HG.out|apply GOK.drewN|apply GOK.drew));done)|exact GOK.below HG.out (by repeat (first|(with_reducible first|exact HB.out|apply below_alloc|apply pw_below_drewN|apply below_drew1|refine below_set ?_ GE183.out|refine below_set ?_ GE184.out|refine below_set ?_ GE204.out)|exact HB.out)))
          rintro e w78 ⟨rfl,hb⟩
          refine ⟨_,rfl,?_⟩
          have n0_:=Aside0.mk (Kd.R_below (by (with_reducible repeat (first|apply Kd.R_alloc|apply Kd.R_drewN|apply Kd.R_drew));exact HO190.out) hb)
          have n1_:=Aside0.mk (Kd.R_below (by (with_reducible repeat (first|apply Kd.R_alloc|apply Kd.R_drewN|apply Kd.R_drew));exact HO193.out) hb)
          have n2_:=Aside0.mk (Kd.R_below (by (with_reducible repeat (first|apply Kd.R_alloc|apply Kd.R_drewN|apply Kd.R_drew));exact HO200.out) hb)
          have n3_:=Aside0.mk (Kd.R_below (by (with_reducible repeat (first|apply Kd.R_alloc|apply Kd.R_drewN|apply Kd.R_drew));exact HO203.out) hb)
          have n4_:=Aside0.mk (blk_below (g:=gb183) (o:=.cells #[.string a0_0,.slice A0_1 l0_1.length c0_1,.slice A0_2 l0_2.length c0_2] 39 (0,0)) (by (with_reducible repeat (first|refine blk_drewN ?_ _|refine blk_drew ?_|refine blk_alloc ?_ _));exact BK183.out) hb)
          have n5_:=Aside0.mk (blk_below (g:=gb184) (o:=.cells #[.string a1_0,.string a1_1] 23 (0,0)) (by (with_reducible repeat (first|refine blk_drewN ?_ _|refine blk_drew ?_|refine blk_alloc ?_ _));exact BK184.out) hb)
          have n6_:=Aside0.mk (blk_below (g:=gb204) (o:=.cells #[.string t197,.slice Ao73 t198.length co73,.slice Ao74 t201.length co74] 44 (0,0)) (by (with_reducible repeat (first|refine blk_drewN ?_ _|refine blk_drew ?_|refine blk_alloc ?_ _));exact BK204.out) hb)
          have n7_:=Aside0.mk (below_step (by repeat (first|(with_reducible first|exact HB.out|apply below_alloc|apply pw_below_drewN|apply below_drew1|refine below_set ?_ GE183.out|refine below_set ?_ GE184.out|refine below_set ?_ GE204.out)|exact HB.out)) hb)
          clear HO190
          clear HO193
          clear HO200
          clear HO203
          clear BK183
          clear BK184
          clear BK204
          clear HB
          have HO190:=n0_
          have HO193:=n1_
          have HO200:=n2_
          have HO203:=n3_
          have BK183:=n4_
          have BK184:=n5_
          have BK204:=n6_
          have HB:=n7_
          clear n0_ n1_ n2_ n3_ n4_ n5_ n6_ n7_
          (try clear hb)
          (try clear hb2)
          (try clear hk)
          (try clear hi)
          refine hK.out _ _ ⟨(blk_cell BK204.out 0).trans rfl,(blk_cell BK204.out 1).trans rfl,(blk_cell BK204.out 2).trans rfl,(blk_cell BK184.out 0).trans rfl,(blk_cell BK184.out 1).trans rfl⟩ (fun hHeld=>?_)
          clear hK K
          refine norm_ (a':=?_) ?_ ?_
          rotate_left
          · show Act.put _ (some 29) _=_
            simp only [Act.put,List.setIfInBounds_toArray,List.set_cons_zero,List.set_cons_succ,i64_w,i32_w]
            rfl
          refine pure_ (i:=4) (N:=some 8) (v:=?_) (a':=?_) #[true,true,true,true,true] rfl rfl (by kernel_rfl) (fun _ _ _ h=>h) (Or.inl ⟨by rfl,?_⟩) ?_ ?_
          rotate_left
          · intro w'
            go_simp
            with_reducible rfl
          rotate_left
          · simp only [Act.put,List.setIfInBounds_toArray,List.set_cons_zero,List.set_cons_succ,i64_w,i32_w]
            rfl
          refine done_ (by kernel_rfl) ?_
          try go_wp2
          have n0_:=Aside0.mk (Kd.R_drew HO190.out)
          have n1_:=Aside0.mk (Kd.R_drew HO193.out)
          have n2_:=Aside0.mk (Kd.R_drew HO200.out)
          have n3_:=Aside0.mk (Kd.R_drew HO203.out)
          have n4_:=Aside0.mk (blk_drew BK183.out)
          have n5_:=Aside0.mk (blk_drew BK184.out)
          have n6_:=Aside0.mk (blk_drew BK204.out)
          have n7_:=Aside0.mk (below_drew1 HB.out)
          clear HO190
          clear HO193
          clear HO200
          clear HO203
          clear BK183
          clear BK184
          clear BK204
          clear HB
          have HO190:=n0_
          have HO193:=n1_
          have HO200:=n2_
          have HO203:=n3_
          have BK183:=n4_
          have BK184:=n5_
          have BK204:=n6_
          have HB:=n7_
          clear n0_ n1_ n2_ n3_ n4_ n5_ n6_ n7_
          refine start_ (n:=5) (S:=fun w'=>w'.cell? ⟨gb204,0,none⟩=some (.string t197)∧w'.cell? ⟨gb204,1,none⟩=some (.slice Ao73 t198.length co73)∧w'.cell? ⟨gb204,2,none⟩=some (.slice Ao74 t201.length co74)∧w'.cell? ⟨gb183,0,none⟩=some (.string a0_0)∧w'.cell? ⟨gb183,1,none⟩=some (.slice A0_1 l0_1.length c0_1)∧w'.cell? ⟨gb183,2,none⟩=some (.slice A0_2 l0_2.length c0_2)) (ds:=[]) #[false,false,false,false,false] (by kernel_rfl) rfl rfl ⟨(blk_cell BK204.out 0).trans rfl,(blk_cell BK204.out 1).trans rfl,(blk_cell BK204.out 2).trans rfl,(blk_cell BK183.out 0).trans rfl,(blk_cell BK183.out 1).trans rfl,(blk_cell BK183.out 2).trans rfl⟩ (fun hHeld=>?_)
          generalize w78.drew=w79 at HO190 HO193 HO200 HO203 BK183 BK184 BK204 HB hHeld ⊢
          refine take_ (i:=0) (N:=some 33) (v:=?_) (a':=?_) #[true,false,false,false,false] rfl rfl (by kernel_rfl) (fun _ _ _ h=>h) (Or.inl ⟨by rfl,?_⟩) hHeld ?_ ?_
          rotate_left
          · rintro w' ⟨s0,s1,s2,s3,s4,s5⟩
            go_simp
            with_reducible rfl
          rotate_left
          · simp only [Act.put,List.setIfInBounds_toArray,List.set_cons_zero,List.set_cons_succ,i64_w,i32_w]
            rfl
          refine take_ (i:=1) (N:=some 34) (v:=?_) (a':=?_) #[true,true,false,false,false] rfl rfl (by kernel_rfl) (fun _ _ _ h=>h) (Or.inl ⟨by rfl,?_⟩) hHeld ?_ ?_
          rotate_left
          · rintro w' ⟨s0,s1,s2,s3,s4,s5⟩
            go_simp
            with_reducible rfl
          rotate_left
          · simp only [Act.put,List.setIfInBounds_toArray,List.set_cons_zero,List.set_cons_succ,i64_w,i32_w]
            rfl
          refine one_ (i:=2) (N:=some 35) #[true,true,true,false,false] rfl rfl (by kernel_rfl) (by decide) (fun K hK=>?_)
          refine goes_ Tryd.func17 (by kernel_rfl) rfl #[.agg #[.string a0_0,.slice A0_1 l0_1.length c0_1,.slice A0_2 l0_2.length c0_2]] (by rfl) rfl rfl (by (try simp only [List.map_toArray,List.map_cons,List.map_nil]);first|done|rfl|(simp only [List.length_drop,List.length_take];rfl)) ?_
          with_reducible refine (laws_toConf.calls k a0_0 _ _ l0_1 _ _ l0_2 t208 t209 t212 _ ?side1 ?side2 ?side3 ?side4 A51.out).mono ?_
          (case side1=>repeat (first|exact (Kd.C_below HR0_1.out HB.out)|(with_reducible refine Kd.C_alloc ?_ _)|(with_reducible refine Kd.C_drewN ?_ _)|(with_reducible refine Kd.C_drew ?_)))
          (case side2=>exact HC0_1.out)
          (case side3=>repeat (first|exact (Kd.C_below HR0_2.out HB.out)|(with_reducible refine Kd.C_alloc ?_ _)|(with_reducible refine Kd.C_drewN ?_ _)|(with_reducible refine Kd.C_drew ?_)))
          (case side4=>exact HC0_2.out)
          rintro e w80 ⟨v210,v213,rfl,ho0,ho1,hb⟩
          refine ⟨_,rfl,?_⟩
          have n0_:=Aside0.mk (Kd.R_elder' (by (with_reducible repeat (first|apply Kd.R_alloc|apply Kd.R_drewN|apply Kd.R_drew));exact HO190.out) (Kd.R_base ho0) hb)
          have n1_:=Aside0.mk (Kd.R_elder' (by (with_reducible repeat (first|apply Kd.R_alloc|apply Kd.R_drewN|apply Kd.R_drew));exact HO193.out) (Kd.R_base ho1) hb)
          have n2_:=Aside0.mk (Kd.R_elder' (by (with_reducible repeat (first|apply Kd.R_alloc|apply Kd.R_drewN|apply Kd.R_drew));exact HO200.out) (Kd.R_base ho0) hb)
          have n3_:=Aside0.mk (Kd.R_elder' (by (with_reducible repeat (first|apply Kd.R_alloc|apply Kd.R_drewN|apply Kd.R_drew));exact HO203.out) (Kd.R_base ho1) hb)
          have n4_:=Aside0.mk (Kd.R_lower (Kd.R_new' (Kd.R_new' ho0 (Kd.R_lt (by (with_reducible repeat (first|apply Kd.R_alloc|apply Kd.R_drewN|apply Kd.R_drew));exact HO190.out))) (Kd.R_lt (by (with_reducible repeat (first|apply Kd.R_alloc|apply Kd.R_drewN|apply Kd.R_drew));exact HO200.out))) (below_size (by repeat (first|(with_reducible first|exact HB.out|apply below_alloc|apply pw_below_drewN|apply below_drew1|refine below_set ?_ GE183.out|refine below_set ?_ GE184.out|refine below_set ?_ GE204.out)|exact HB.out))))
          have n5_:=Aside0.mk (Kd.R_lower (Kd.R_new' (Kd.R_new' ho1 (Kd.R_lt (by (with_reducible repeat (first|apply Kd.R_alloc|apply Kd.R_drewN|apply Kd.R_drew));exact HO193.out))) (Kd.R_lt (by (with_reducible repeat (first|apply Kd.R_alloc|apply Kd.R_drewN|apply Kd.R_drew));exact HO203.out))) (below_size (by repeat (first|(with_reducible first|exact HB.out|apply below_alloc|apply pw_below_drewN|apply below_drew1|refine below_set ?_ GE183.out|refine below_set ?_ GE184.out|refine below_set ?_ GE204.out)|exact HB.out))))
          have n6_:=Aside0.mk (blk_below (g:=gb183) (o:=.cells #[.string a0_0,.slice A0_1 l0_1.length c0_1,.slice A0_2 l0_2.length c0_2] 39 (0,0)) (by (with_reducible repeat (first|refine blk_drewN ?_ _|refine blk_drew ?_|refine blk_alloc ?_ _));exact BK183.out) hb)
          have n7_:=Aside0.mk (blk_below (g:=gb184) (o:=.cells #[.string a1_0,.string a1_1] 23 (0,0)) (by (with_reducible repeat (first|refine blk_drewN ?_ _|refine blk_drew ?_|refine blk_alloc ?_ _));exact BK184.out) hb)
          have n8_:=Aside0.mk (blk_below (g:=gb204) (o:=.cells #[.string t197,.slice Ao73 t198.length co73,.slice Ao74 t201.length co74] 44 (0,0)) (by (with_reducible repeat (first|refine blk_drewN ?_ _|refine blk_drew ?_|refine blk_alloc ?_ _));exact BK204.out) hb)
          have n9_:=Aside0.mk (below_step (by repeat (first|(with_reducible first|exact HB.out|apply below_alloc|apply pw_below_drewN|apply below_drew1|refine below_set ?_ GE183.out|refine below_set ?_ GE184.out|refine below_set ?_ GE204.out)|exact HB.out)) hb)
          clear HO190
          clear HO193
          clear HO200
          clear HO203
          clear BK183
          clear BK184
          clear BK204
          clear HB
          have HO190:=n0_
          have HO193:=n1_
          have HO200:=n2_
          have HO203:=n3_
          have HO211:=n4_
          have HO214:=n5_
          have BK183:=n6_
          have BK184:=n7_
          have BK204:=n8_
          have HB:=n9_
          clear n0_ n1_ n2_ n3_ n4_ n5_ n6_ n7_ n8_ n9_
          (try clear hb)
          (try clear hb2)
          (try clear hk)
          (try clear hi)
          (try clear ho0)
          (try clear ho1)
          obtain ⟨Ao81,co81,eo81⟩:=Kd.R_slice HO211.out
          (first|subst eo81|(injection eo81 with f1_ f2_ f3_;have f4_:=f1_.symm;have f5_:=f3_.symm;clear f1_ f2_ f3_;subst f4_;subst f5_))
          obtain ⟨Ao82,co82,eo82⟩:=Kd.R_slice HO214.out
          (first|subst eo82|(injection eo82 with f1_ f2_ f3_;have f4_:=f1_.symm;have f5_:=f3_.symm;clear f1_ f2_ f3_;subst f4_;subst f5_))
          refine hK.out _ _ ⟨(blk_cell BK204.out 0).trans rfl,(blk_cell BK204.out 1).trans rfl,(blk_cell BK204.out 2).trans rfl,(blk_cell BK183.out 0).trans rfl,(blk_cell BK183.out 1).trans rfl,(blk_cell BK183.out 2).trans rfl⟩ (fun hHeld=>?_)
          clear hK K
          refine norm_ (a':=?_) ?_ ?_
          rotate_left
          · show Act.put _ (some 35) _=_
            simp only [Act.put,List.setIfInBounds_toArray,List.set_cons_zero,List.set_cons_succ,i64_w,i32_w]
            rfl
          refine one_ (i:=3) (N:=some 36) #[true,true,true,true,false] rfl rfl (by kernel_rfl) (by decide) (fun K hK=>?_)
          refine goes_ Tryd.func19 (by kernel_rfl) rfl #[.agg #[.string t197,.slice Ao73 t198.length co73,.slice Ao74 t201.length co74],.agg #[.string t208,.slice Ao81 t209.length co81,.slice Ao82 t212.length co82]] (by rfl) rfl rfl (by (try simp only [List.map_toArray,List.map_cons,List.map_nil]);first|done|rfl|(simp only [List.length_drop,List.length_take];rfl)) ?_
          with_reducible refine (laws_eqConf.calls k t197 _ _ t198 _ _ t201 t208 _ _ t209 _ _ t212 true _ ?side1 ?side2 ?side3 ?side4 ?side5 ?side6 ?side7 ?side8 A52.out).mono ?_
          (case side1=>repeat (first|exact (Kd.R_reads' HO200.out).2.2|(with_reducible refine Kd.C_alloc ?_ _)|(with_reducible refine Kd.C_drewN ?_ _)|(with_reducible refine Kd.C_drew ?_)))
          (case side2=>exact (Kd.R_reads' HO200.out).2.1)
          (case side3=>repeat (first|exact (Kd.R_reads' HO203.out).2.2|(with_reducible refine Kd.C_alloc ?_ _)|(with_reducible refine Kd.C_drewN ?_ _)|(with_reducible refine Kd.C_drew ?_)))
          (case side4=>exact (Kd.R_reads' HO203.out).2.1)
          (case side5=>repeat (first|exact (Kd.R_reads' HO211.out).2.2|(with_reducible refine Kd.C_alloc ?_ _)|(with_reducible refine Kd.C_drewN ?_ _)|(with_reducible refine Kd.C_drew ?_)))
          (case side6=>exact (Kd.R_reads' HO211.out).2.1)
          (case side7=>repeat (first|exact (Kd.R_reads' HO214.out).2.2|(with_reducible refine Kd.C_alloc ?_ _)|(with_reducible refine Kd.C_drewN ?_ _)|(with_reducible refine Kd.C_drew ?_)))
          (case side8=>exact (Kd.R_reads' HO214.out).2.1)
          rintro e w83 ⟨rfl,hb⟩
          refine ⟨_,rfl,?_⟩
          have n0_:=Aside0.mk (Kd.R_below (by (with_reducible repeat (first|apply Kd.R_alloc|apply Kd.R_drewN|apply Kd.R_drew));exact HO190.out) hb)
          have n1_:=Aside0.mk (Kd.R_below (by (with_reducible repeat (first|apply Kd.R_alloc|apply Kd.R_drewN|apply Kd.R_drew));exact HO193.out) hb)
          have n2_:=Aside0.mk (Kd.R_below (by (with_reducible repeat (first|apply Kd.R_alloc|apply Kd.R_drewN|apply Kd.R_drew));exact HO200.out) hb)
          have n3_:=Aside0.mk (Kd.R_below (by (with_reducible repeat (first|apply Kd.R_alloc|apply Kd.R_drewN|apply Kd.R_drew));exact HO203.out) hb)
          have n4_:=Aside0.mk (Kd.R_below (by (with_reducible repeat (first|apply Kd.R_alloc|apply Kd.R_drewN|apply Kd.R_drew));exact HO211.out) hb)
          have n5_:=Aside0.mk (Kd.R_below (by (with_reducible repeat (first|apply Kd.R_alloc|apply Kd.R_drewN|apply Kd.R_drew));exact HO214.out) hb)
          have n6_:=Aside0.mk (blk_below (g:=gb183) (o:=.cells #[.string a0_0,.slice A0_1 l0_1.length c0_1,.slice A0_2 l0_2.length c0_2] 39 (0,0)) (by (with_reducible repeat (first|refine blk_drewN ?_ _|refine blk_drew ?_|refine blk_alloc ?_ _));exact BK183.out) hb)
          have n7_:=Aside0.mk (blk_below (g:=gb184) (o:=.cells #[.string a1_0,.string a1_1] 23 (0,0)) (by (with_reducible repeat (first|refine blk_drewN ?_ _|refine blk_drew ?_|refine blk_alloc ?_ _));exact BK184.out) hb)
          have n8_:=Aside0.mk (blk_below (g:=gb204) (o:=.cells #[.string t197,.slice Ao73 t198.length co73,.slice Ao74 t201.length co74] 44 (0,0)) (by (with_reducible repeat (first|refine blk_drewN ?_ _|refine blk_drew ?_|refine blk_alloc ?_ _));exact BK204.out) hb)
          have n9_:=Aside0.mk (below_step (by repeat (first|(with_reducible first|exact HB.out|apply below_alloc|apply pw_below_drewN|apply below_drew1|refine below_set ?_ GE183.out|refine below_set ?_ GE184.out|refine below_set ?_ GE204.out)|exact HB.out)) hb)
          clear HO190
          clear HO193
          clear HO200
          clear HO203
          clear HO211
          clear HO214
          clear BK183
          clear BK184
          clear BK204
          clear HB
          have HO190:=n0_
          have HO193:=n1_
          have HO200:=n2_
          have HO203:=n3_
          have HO211:=n4_
          have HO214:=n5_
          have BK183:=n6_
          have BK184:=n7_
          have BK204:=n8_
          have HB:=n9_
          clear n0_ n1_ n2_ n3_ n4_ n5_ n6_ n7_ n8_ n9_
          (try clear hb)
          (try clear hb2)
          (try clear hk)
          (try clear hi)
          refine hK.out _ _ ⟨(blk_cell BK204.out 0).trans rfl,(blk_cell BK204.out 1).trans rfl,(blk_cell BK204.out 2).trans rfl,(blk_cell BK183.out 0).trans rfl,(blk_cell BK183.out 1).trans rfl,(blk_cell BK183.out 2).trans rfl⟩ (fun hHeld=>?_)
          clear hK K
          refine norm_ (a':=?_) ?_ ?_
          rotate_left
          · show Act.put _ (some 36) _=_
            simp only [Act.put,List.setIfInBounds_toArray,List.set_cons_zero,List.set_cons_succ,i64_w,i32_w]
            rfl
          refine pure_ (i:=4) (N:=some 37) (v:=?_) (a':=?_) #[true,true,true,true,true] rfl rfl (by kernel_rfl) (fun _ _ _ h=>h) (Or.inl ⟨by rfl,?_⟩) ?_ ?_
          rotate_left
          · intro w'
            go_simp
            with_reducible rfl
          rotate_left
          · simp only [Act.put,List.setIfInBounds_toArray,List.set_cons_zero,List.set_cons_succ,i64_w,i32_w]
            rfl
          refine done_ (by kernel_rfl) ?_
          try go_wp2
          go_ret
          exact ⟨by first|rfl|(simp [errW_none,errW_some]<;>rfl)|(simp [*,errW_none,errW_some]<;>rfl),by repeat (first|(with_reducible first|exact HB.out|apply below_alloc|apply pw_below_drewN|apply below_drew1|refine below_set ?_ GE183.out|refine below_set ?_ GE184.out|refine below_set ?_ GE204.out)|exact HB.out)⟩
        · replace c53:=Bool.eq_false_iff.mpr c53
          subst c53
          have H1:(some false)=some r:=by rw [if_neg (show ¬ (false=true) by decide)] at H;exact H
          clear H
          have H:=H1
          clear H1
          obtain rfl:=Option.some.inj H
          go_enter Tryd.func5,Tryd.ntmps5
          try go_wp2_with (first|((with_reducible refine gate_dst (N:=2) rfl ?_);refine box_event ?hg (N:=2) ?hd (cs:=#[.string a0_0,.slice A0_1 l0_1.length c0_1,.slice A0_2 l0_2.length c0_2]) (t:=39) ?hr ?_;(case hd=>rfl);(case hg=>rfl);(case hr=>first|(go_simp;done)|(go_simp;rfl));intro gb183 hg w84 hbox hb;have n0_:=Aside0.mk (below_step (by repeat (first|(with_reducible first|exact HB.out|apply below_alloc|apply pw_below_drewN|apply below_drew1)|exact HB.out)) hb);have n1_:=Aside0.mk (hbox);have n2_:=Aside0.mk ((by rw [hg];exact (below_size (by repeat (first|(with_reducible first|exact HB.out|apply below_alloc|apply pw_below_drewN|apply below_drew1)|exact HB.out))):w.heap.size≤gb183));have n3_:=Aside0.mk ((by rw [hg];exact (below_size (by repeat (first|(with_reducible first|exact HB.out|apply below_alloc|apply pw_below_drewN|apply below_drew1)|exact HB.out))):w.heap.size≤gb183));clear HB;have HB:=n0_;have BK183:=n1_;have GW183:=n2_;have GE183:=n3_;clear n0_ n1_ n2_ n3_;clear hb hbox hg)|((with_reducible refine gate_dst (N:=3) rfl ?_);refine box_event ?hg (N:=3) ?hd (cs:=#[.string a1_0,.string a1_1]) (t:=23) ?hr ?_;(case hd=>rfl);(case hg=>rfl);(case hr=>first|(go_simp;done)|(go_simp;rfl));intro gb184 hg w85 hbox hb;have n0_:=Aside0.mk (blk_below (g:=gb183) (o:=.cells #[.string a0_0,.slice A0_1 l0_1.length c0_1,.slice A0_2 l0_2.length c0_2] 39 (0,0)) (by (with_reducible repeat (first|refine blk_drewN ?_ _|refine blk_drew ?_|refine blk_alloc ?_ _));exact BK183.out) hb);have n1_:=Aside0.mk (below_step (by repeat (first|(with_reducible first|exact HB.out|apply below_alloc|apply pw_below_drewN|apply below_drew1|refine below_set ?_ GE183.out)|exact HB.out)) hb);have n2_:=Aside0.mk (hbox);have n3_:=Aside0.mk ((by rw [hg];exact (below_size (by repeat (first|(with_reducible first|exact HB.out|apply below_alloc|apply pw_below_drewN|apply below_drew1|refine below_set ?_ GE183.out)|exact HB.out))):w.heap.size≤gb184));have n4_:=Aside0.mk ((by rw [hg];exact (below_size (by repeat (first|(with_reducible first|exact HB.out|apply below_alloc|apply pw_below_drewN|apply below_drew1|refine below_set ?_ GE183.out)|exact HB.out))):w.heap.size≤gb184));have n5_:=Aside0.mk ((by rw [hg];exact Nat.ne_of_lt (blk_lt (g:=gb183) (o:=.cells #[.string a0_0,.slice A0_1 l0_1.length c0_1,.slice A0_2 l0_2.length c0_2] 39 (0,0)) (by (with_reducible repeat (first|refine blk_drewN ?_ _|refine blk_drew ?_|refine blk_alloc ?_ _));exact BK183.out)):gb183≠gb184));have n6_:=Aside0.mk ((by rw [hg];exact Nat.ne_of_gt (blk_lt (g:=gb183) (o:=.cells #[.string a0_0,.slice A0_1 l0_1.length c0_1,.slice A0_2 l0_2.length c0_2] 39 (0,0)) (by (with_reducible repeat (first|refine blk_drewN ?_ _|refine blk_drew ?_|refine blk_alloc ?_ _));exact BK183.out)):gb184≠gb183));clear BK183;clear HB;have BK183:=n0_;have HB:=n1_;have BK184:=n2_;have GW184:=n3_;have GE184:=n4_;have NB183_184:=n5_;have NB184_183:=n6_;clear n0_ n1_ n2_ n3_ n4_ n5_ n6_;clear hb hbox hg;have hnb86:=NB183_184.out;have hnc86:=NB184_183.out;have hcz87_0:w85.cell? ⟨gb183,0,none⟩=some (.string a0_0):=(blk_cell BK183.out 0).trans rfl;have hcz87_1:w85.cell? ⟨gb183,1,none⟩=some (.slice A0_1 l0_1.length c0_1):=(blk_cell BK183.out 1).trans rfl;have hcz87_2:w85.cell? ⟨gb183,2,none⟩=some (.slice A0_2 l0_2.length c0_2):=(blk_cell BK183.out 2).trans rfl;have hfz87_0:=blk_frozen BK183.out 0;have hfz87_1:=blk_frozen BK183.out 1;have hfz87_2:=blk_frozen BK183.out 2)|((with_reducible refine gate_callee (f:=15) rfl ?_);refine goesL_ (some 11) rfl rfl Tryd.func15 (by kernel_rfl) rfl #[.agg #[.string a0_0,.slice A0_1 l0_1.length c0_1,.slice A0_2 l0_2.length c0_2],.int .i64 1048576] rfl (by (try simp only [List.map_toArray,List.map_cons,List.map_nil]);first|done|rfl|(simp only [List.length_drop,List.length_take];rfl)) ?_;(with_reducible refine (laws_szConf.calls k a0_0 _ _ l0_1 _ _ l0_2 1048576 t185 _ ?side1 ?side2 ?side3 ?side4 A3.out).mono ?_);(case side1=>repeat (first|exact (Kd.C_below HR0_1.out HB.out)|(with_reducible refine Kd.C_alloc ?_ _)|(with_reducible refine Kd.C_drewN ?_ _)|(with_reducible refine Kd.C_drew ?_)));(case side2=>exact HC0_1.out);(case side3=>repeat (first|exact (Kd.C_below HR0_2.out HB.out)|(with_reducible refine Kd.C_alloc ?_ _)|(with_reducible refine Kd.C_drewN ?_ _)|(with_reducible refine Kd.C_drew ?_)));(case side4=>exact HC0_2.out);rintro e w88 ⟨rfl,hb⟩;refine ⟨_,rfl,?_⟩;have n0_:=Aside0.mk (blk_below (g:=gb183) (o:=.cells #[.string a0_0,.slice A0_1 l0_1.length c0_1,.slice A0_2 l0_2.length c0_2] 39 (0,0)) (by (with_reducible repeat (first|refine blk_drewN ?_ _|refine blk_drew ?_|refine blk_alloc ?_ _));exact BK183.out) hb);have n1_:=Aside0.mk (blk_below (g:=gb184) (o:=.cells #[.string a1_0,.string a1_1] 23 (0,0)) (by (with_reducible repeat (first|refine blk_drewN ?_ _|refine blk_drew ?_|refine blk_alloc ?_ _));exact BK184.out) hb);have n2_:=Aside0.mk (below_step (by repeat (first|(with_reducible first|exact HB.out|apply below_alloc|apply pw_below_drewN|apply below_drew1|refine below_set ?_ GE183.out|refine below_set ?_ GE184.out)|exact HB.out)) hb);clear BK183;clear BK184;clear HB;have BK183:=n0_;have BK184:=n1_;have HB:=n2_;clear n0_ n1_ n2_;(try clear hb);(try clear hb2);(try clear hk);(try clear hi);have hcz89_0:w88.cell? ⟨gb184,0,none⟩=some (.string a1_0):=(blk_cell BK184.out 0).trans rfl;have hcz89_1:w88.cell? ⟨gb184,1,none⟩=some (.string a1_1):=(blk_cell BK184.out 1).trans rfl;have hfz89_0:=blk_frozen BK184.out 0;have hfz89_1:=blk_frozen BK184.out 1)|((with_reducible refine gate_callee (f:=20) rfl ?_);refine goesL_ (some 16) rfl rfl Tryd.func20 (by kernel_rfl) rfl #[.agg #[.string a1_0,.string a1_1],.int .i64 t185] rfl (by (try simp only [List.map_toArray,List.map_cons,List.map_nil]);first|done|rfl|(simp only [List.length_drop,List.length_take];rfl)) ?_;(with_reducible refine (laws_szAddr.calls a1_0 a1_1 t185 t186 _ A10.out).mono ?_);rintro e w90 ⟨rfl,hb⟩;refine ⟨_,rfl,?_⟩;have n0_:=Aside0.mk (blk_below (g:=gb183) (o:=.cells #[.string a0_0,.slice A0_1 l0_1.length c0_1,.slice A0_2 l0_2.length c0_2] 39 (0,0)) (by (with_reducible repeat (first|refine blk_drewN ?_ _|refine blk_drew ?_|refine blk_alloc ?_ _));exact BK183.out) hb);have n1_:=Aside0.mk (blk_below (g:=gb184) (o:=.cells #[.string a1_0,.string a1_1] 23 (0,0)) (by (with_reducible repeat (first|refine blk_drewN ?_ _|refine blk_drew ?_|refine blk_alloc ?_ _));exact BK184.out) hb);have n2_:=Aside0.mk (below_step (by repeat (first|(with_reducible first|exact HB.out|apply below_alloc|apply pw_below_drewN|apply below_drew1|refine below_set ?_ GE183.out|refine below_set ?_ GE184.out)|exact HB.out)) hb);clear BK183;clear BK184;clear HB;have BK183:=n0_;have BK184:=n1_;have HB:=n2_;clear n0_ n1_ n2_;(try clear hb);(try clear hb2);(try clear hk);(try clear hi)))
          have n0_:=Aside0.mk (blk_drew BK183.out)
          have n1_:=Aside0.mk (blk_drew BK184.out)
          have n2_:=Aside0.mk (below_drew1 HB.out)
          clear BK183
          clear BK184
          clear HB
          have BK183:=n0_
          have BK184:=n1_
          have HB:=n2_
          clear n0_ n1_ n2_
          refine start_ (n:=6) (S:=fun w'=>w'.cell? ⟨gb183,0,none⟩=some (.string a0_0)∧w'.cell? ⟨gb183,1,none⟩=some (.slice A0_1 l0_1.length c0_1)∧w'.cell? ⟨gb183,2,none⟩=some (.slice A0_2 l0_2.length c0_2)∧w'.cell? ⟨gb184,0,none⟩=some (.string a1_0)∧w'.cell? ⟨gb184,1,none⟩=some (.string a1_1)) (ds:=[]) #[false,false,false,false,false,false] (by kernel_rfl) rfl rfl ⟨(blk_cell BK183.out 0).trans rfl,(blk_cell BK183.out 1).trans rfl,(blk_cell BK183.out 2).trans rfl,(blk_cell BK184.out 0).trans rfl,(blk_cell BK184.out 1).trans rfl⟩ (fun hHeld=>?_)
          generalize w90.drew=w91 at BK183 BK184 HB hHeld ⊢
          refine take_ (i:=0) (N:=some 19) (v:=?_) (a':=?_) #[true,false,false,false,false,false] rfl rfl (by kernel_rfl) (fun _ _ _ h=>h) (Or.inl ⟨by rfl,?_⟩) hHeld ?_ ?_
          rotate_left
          · rintro w' ⟨s0,s1,s2,s3,s4⟩
            go_simp
            with_reducible rfl
          rotate_left
          · simp only [Act.put,List.setIfInBounds_toArray,List.set_cons_zero,List.set_cons_succ,i64_w,i32_w]
            rfl
          refine take_ (i:=2) (N:=some 21) (v:=?_) (a':=?_) #[true,false,true,false,false,false] rfl rfl (by kernel_rfl) (fun _ _ _ h=>h) (Or.inl ⟨by rfl,?_⟩) hHeld ?_ ?_
          rotate_left
          · rintro w' ⟨s0,s1,s2,s3,s4⟩
            go_simp
            with_reducible rfl
          rotate_left
          · simp only [Act.put,List.setIfInBounds_toArray,List.set_cons_zero,List.set_cons_succ,i64_w,i32_w]
            rfl
          refine one_ (i:=1) (N:=some 20) #[true,true,true,false,false,false] rfl rfl (by kernel_rfl) (by decide) (fun K hK=>?_)
          refine goes_ Tryd.func17 (by kernel_rfl) rfl #[.agg #[.string a0_0,.slice A0_1 l0_1.length c0_1,.slice A0_2 l0_2.length c0_2]] (by rfl) rfl rfl (by (try simp only [List.map_toArray,List.map_cons,List.map_nil]);first|done|rfl|(simp only [List.length_drop,List.length_take];rfl)) ?_
          with_reducible refine (laws_toConf.calls k a0_0 _ _ l0_1 _ _ l0_2 t187 t188 t191 _ ?side1 ?side2 ?side3 ?side4 A19.out).mono ?_
          (case side1=>repeat (first|exact (Kd.C_below HR0_1.out HB.out)|(with_reducible refine Kd.C_alloc ?_ _)|(with_reducible refine Kd.C_drewN ?_ _)|(with_reducible refine Kd.C_drew ?_)))
          (case side2=>exact HC0_1.out)
          (case side3=>repeat (first|exact (Kd.C_below HR0_2.out HB.out)|(with_reducible refine Kd.C_alloc ?_ _)|(with_reducible refine Kd.C_drewN ?_ _)|(with_reducible refine Kd.C_drew ?_)))
          (case side4=>exact HC0_2.out)
          rintro e w92 ⟨v189,v192,rfl,ho0,ho1,hb⟩
          refine ⟨_,rfl,?_⟩
          have n0_:=Aside0.mk (Kd.R_lower ho0 (below_size (by repeat (first|(with_reducible first|exact HB.out|apply below_alloc|apply pw_below_drewN|apply below_drew1|refine below_set ?_ GE183.out|refine below_set ?_ GE184.out)|exact HB.out))))
          have n1_:=Aside0.mk (Kd.R_lower ho1 (below_size (by repeat (first|(with_reducible first|exact HB.out|apply below_alloc|apply pw_below_drewN|apply below_drew1|refine below_set ?_ GE183.out|refine below_set ?_ GE184.out)|exact HB.out))))
          have n2_:=Aside0.mk (blk_below (g:=gb183) (o:=.cells #[.string a0_0,.slice A0_1 l0_1.length c0_1,.slice A0_2 l0_2.length c0_2] 39 (0,0)) (by (with_reducible repeat (first|refine blk_drewN ?_ _|refine blk_drew ?_|refine blk_alloc ?_ _));exact BK183.out) hb)
          have n3_:=Aside0.mk (blk_below (g:=gb184) (o:=.cells #[.string a1_0,.string a1_1] 23 (0,0)) (by (with_reducible repeat (first|refine blk_drewN ?_ _|refine blk_drew ?_|refine blk_alloc ?_ _));exact BK184.out) hb)
          have n4_:=Aside0.mk (below_step (by repeat (first|(with_reducible first|exact HB.out|apply below_alloc|apply pw_below_drewN|apply below_drew1|refine below_set ?_ GE183.out|refine below_set ?_ GE184.out)|exact HB.out)) hb)
          clear BK183
          clear BK184
          clear HB
          have HO190:=n0_
          have HO193:=n1_
          have BK183:=n2_
          have BK184:=n3_
          have HB:=n4_
          clear n0_ n1_ n2_ n3_ n4_
          (try clear hb)
          (try clear hb2)
          (try clear hk)
          (try clear hi)
          (try clear ho0)
          (try clear ho1)
          refine hK.out _ _ ⟨(blk_cell BK183.out 0).trans rfl,(blk_cell BK183.out 1).trans rfl,(blk_cell BK183.out 2).trans rfl,(blk_cell BK184.out 0).trans rfl,(blk_cell BK184.out 1).trans rfl⟩ (fun hHeld=>?_)
          clear hK K
          refine norm_ (a':=?_) ?_ ?_
          rotate_left
          · show Act.put _ (some 20) _=_
            simp only [Act.put,List.setIfInBounds_toArray,List.set_cons_zero,List.set_cons_succ,i64_w,i32_w]
            rfl
          refine one_ (i:=3) (N:=some 22) #[true,true,true,true,false,false] rfl rfl (by kernel_rfl) (by decide) (fun K hK=>?_)
          refine goes_ Tryd.func22 (by kernel_rfl) rfl #[.agg #[.string a1_0,.string a1_1]] (by rfl) rfl rfl (by (try simp only [List.map_toArray,List.map_cons,List.map_nil]);first|done|rfl|(simp only [List.length_drop,List.length_take];rfl)) ?_
          with_reducible refine (laws_toAddr.calls a1_0 a1_1 t194 t195 _ A20.out).mono ?_
          rintro e w93 ⟨rfl,hb⟩
          refine ⟨_,rfl,?_⟩
          have n0_:=Aside0.mk (Kd.R_below (by (with_reducible repeat (first|apply Kd.R_alloc|apply Kd.R_drewN|apply Kd.R_drew));exact HO190.out) hb)
          have n1_:=Aside0.mk (Kd.R_below (by (with_reducible repeat (first|apply Kd.R_alloc|apply Kd.R_drewN|apply Kd.R_drew));exact HO193.out) hb)
          have n2_:=Aside0.mk (blk_below (g:=gb183) (o:=.cells #[.string a0_0,.slice A0_1 l0_1.length c0_1,.slice A0_2 l0_2.length c0_2] 39 (0,0)) (by (with_reducible repeat (first|refine blk_drewN ?_ _|refine blk_drew ?_|refine blk_alloc ?_ _));exact BK183.out) hb)
          have n3_:=Aside0.mk (blk_below (g:=gb184) (o:=.cells #[.string a1_0,.string a1_1] 23 (0,0)) (by (with_reducible repeat (first|refine blk_drewN ?_ _|refine blk_drew ?_|refine blk_alloc ?_ _));exact BK184.out) hb)
          have n4_:=Aside0.mk (below_step (by repeat (first|(with_reducible first|exact HB.out|apply below_alloc|apply pw_below_drewN|apply below_drew1|refine below_set ?_ GE183.out|refine below_set ?_ GE184.out)|exact HB.out)) hb)
          clear HO190
          clear HO193
          clear BK183
          clear BK184
          clear HB
          have HO190:=n0_
          have HO193:=n1_
          have BK183:=n2_
          have BK184:=n3_
          have HB:=n4_
          clear n0_ n1_ n2_ n3_ n4_
          (try clear hb)
          (try clear hb2)
          (try clear hk)
          (try clear hi)
          obtain ⟨Ao94,co94,eo94⟩:=Kd.R_slice HO190.out
          (first|subst eo94|(injection eo94 with f1_ f2_ f3_;have f4_:=f1_.symm;have f5_:=f3_.symm;clear f1_ f2_ f3_;subst f4_;subst f5_))
          obtain ⟨Ao95,co95,eo95⟩:=Kd.R_slice HO193.out
          (first|subst eo95|(injection eo95 with f1_ f2_ f3_;have f4_:=f1_.symm;have f5_:=f3_.symm;clear f1_ f2_ f3_;subst f4_;subst f5_))
          refine hK.out _ _ ⟨(blk_cell BK183.out 0).trans rfl,(blk_cell BK183.out 1).trans rfl,(blk_cell BK183.out 2).trans rfl,(blk_cell BK184.out 0).trans rfl,(blk_cell BK184.out 1).trans rfl⟩ (fun hHeld=>?_)
          clear hK K
          refine norm_ (a':=?_) ?_ ?_
          rotate_left
          · show Act.put _ (some 22) _=_
            simp only [Act.put,List.setIfInBounds_toArray,List.set_cons_zero,List.set_cons_succ,i64_w,i32_w]
            rfl
          refine one_ (i:=4) (N:=some 23) #[true,true,true,true,true,false] rfl rfl (by kernel_rfl) (by decide) (fun K hK=>?_)
          refine goes_ Tryd.func21 (by kernel_rfl) rfl #[.agg #[.string t187,.slice Ao94 t188.length co94,.slice Ao95 t191.length co95],.agg #[.string t194,.string t195]] (by rfl) rfl rfl (by (try simp only [List.map_toArray,List.map_cons,List.map_nil]);first|done|rfl|(simp only [List.length_drop,List.length_take];rfl)) ?_
          with_reducible refine (spec_ConfTakes.calls k t187 _ _ t188 _ _ t191 t194 t195 t196 _ ?side1 ?side2 ?side3 ?side4 A21.out).mono ?_
          (case side1=>repeat (first|exact (Kd.R_reads' HO190.out).2.2|(with_reducible refine Kd.C_alloc ?_ _)|(with_reducible refine Kd.C_drewN ?_ _)|(with_reducible refine Kd.C_drew ?_)))
          (case side2=>exact (Kd.R_reads' HO190.out).2.1)
          (case side3=>repeat (first|exact (Kd.R_reads' HO193.out).2.2|(with_reducible refine Kd.C_alloc ?_ _)|(with_reducible refine Kd.C_drewN ?_ _)|(with_reducible refine Kd.C_drew ?_)))
          (case side4=>exact (Kd.R_reads' HO193.out).2.1)
          rintro e w96 ⟨rfl,hb⟩
          refine ⟨_,rfl,?_⟩
          have n0_:=Aside0.mk (Kd.R_below (by (with_reducible repeat (first|apply Kd.R_alloc|apply Kd.R_drewN|apply Kd.R_drew));exact HO190.out) hb)
          have n1_:=Aside0.mk (Kd.R_below (by (with_reducible repeat (first|apply Kd.R_alloc|apply Kd.R_drewN|apply Kd.R_drew));exact HO193.out) hb)
          have n2_:=Aside0.mk (blk_below (g:=gb183) (o:=.cells #[.string a0_0,.slice A0_1 l0_1.length c0_1,.slice A0_2 l0_2.length c0_2] 39 (0,0)) (by (with_reducible repeat (first|refine blk_drewN ?_ _|refine blk_drew ?_|refine blk_alloc ?_ _));exact BK183.out) hb)
          have n3_:=Aside0.mk (blk_below (g:=gb184) (o:=.cells #[.string a1_0,.string a1_1] 23 (0,0)) (by (with_reducible repeat (first|refine blk_drewN ?_ _|refine blk_drew ?_|refine blk_alloc ?_ _));exact BK184.out) hb)
          have n4_:=Aside0.mk (below_step (by repeat (first|(with_reducible first|exact HB.out|apply below_alloc|apply pw_below_drewN|apply below_drew1|refine below_set ?_ GE183.out|refine below_set ?_ GE184.out)|exact HB.out)) hb)
          clear HO190
          clear HO193
          clear BK183
          clear BK184
          clear HB
          have HO190:=n0_
          have HO193:=n1_
          have BK183:=n2_
          have BK184:=n3_
          have HB:=n4_
          clear n0_ n1_ n2_ n3_ n4_
          (try clear hb)
          (try clear hb2)
          (try clear hk)
          (try clear hi)
          refine hK.out _ _ ⟨(blk_cell BK183.out 0).trans rfl,(blk_cell BK183.out 1).trans rfl,(blk_cell BK183.out 2).trans rfl,(blk_cell BK184.out 0).trans rfl,(blk_cell BK184.out 1).trans rfl⟩ (fun hHeld=>?_)
          clear hK K
          refine norm_ (a':=?_) ?_ ?_
          rotate_left
          · show Act.put _ (some 23) _=_
            simp only [Act.put,List.setIfInBounds_toArray,List.set_cons_zero,List.set_cons_succ,i64_w,i32_w]
            rfl
          refine pure_ (i:=5) (N:=some 6) (v:=?_) (a':=?_) #[true,true,true,true,true,true] rfl rfl (by kernel_rfl) (fun _ _ _ h=>h) (Or.inl ⟨by rfl,?_⟩) ?_ ?_
          rotate_left
          · intro w'
            go_simp
            with_reducible rfl
          rotate_left
          · simp only [Act.put,List.setIfInBounds_toArray,List.set_cons_zero,List.set_cons_succ,i64_w,i32_w]
            rfl
          refine done_ (by kernel_rfl) ?_
          have hcz97_0:w96.cell? ⟨gb183,0,none⟩=some (.string a0_0):=(blk_cell BK183.out 0).trans rfl
          have hcz97_1:w96.cell? ⟨gb183,1,none⟩=some (.slice A0_1 l0_1.length c0_1):=(blk_cell BK183.out 1).trans rfl
          have hcz97_2:w96.cell? ⟨gb183,2,none⟩=some (.slice A0_2 l0_2.length c0_2):=(blk_cell BK183.out 2).trans rfl
          have hfz97_0:=blk_frozen BK183.out 0
          have hfz97_1:=blk_frozen BK183.out 1
          have hfz97_2:=blk_frozen BK183.out 2
          try go_wp2_with (first|((with_reducible refine gate_callee (f:=17) rfl ?_);refine goesL_ (some 25) rfl rfl Tryd.func17 (by kernel_rfl) rfl #[.agg #[.string a0_0,.slice A0_1 l0_1.length c0_1,.slice A0_2 l0_2.length c0_2]] rfl (by (try simp only [List.map_toArray,List.map_cons,List.map_nil]);first|done|rfl|(simp only [List.length_drop,List.length_take];rfl)) ?_;(with_reducible refine (laws_toConf.calls k a0_0 _ _ l0_1 _ _ l0_2 t197 t198 t201 _ ?side1 ?side2 ?side3 ?side4 A22.out).mono ?_);(case side1=>repeat (first|exact (Kd.C_below HR0_1.out HB.out)|(with_reducible refine Kd.C_alloc ?_ _)|(with_reducible refine Kd.C_drewN ?_ _)|(with_reducible refine Kd.C_drew ?_)));(case side2=>exact HC0_1.out);(case side3=>repeat (first|exact (Kd.C_below HR0_2.out HB.out)|(with_reducible refine Kd.C_alloc ?_ _)|(with_reducible refine Kd.C_drewN ?_ _)|(with_reducible refine Kd.C_drew ?_)));(case side4=>exact HC0_2.out);rintro e w98 ⟨v199,v202,rfl,ho0,ho1,hb⟩;refine ⟨_,rfl,?_⟩;have n0_:=Aside0.mk (Kd.R_elder' (by (with_reducible repeat (first|apply Kd.R_alloc|apply Kd.R_drewN|apply Kd.R_drew));exact HO190.out) (Kd.R_base ho0) hb);have n1_:=Aside0.mk (Kd.R_elder' (by (with_reducible repeat (first|apply Kd.R_alloc|apply Kd.R_drewN|apply Kd.R_drew));exact HO193.out) (Kd.R_base ho1) hb);have n2_:=Aside0.mk (Kd.R_lower (Kd.R_new' ho0 (Kd.R_lt (by (with_reducible repeat (first|apply Kd.R_alloc|apply Kd.R_drewN|apply Kd.R_drew));exact HO190.out))) (below_size (by repeat (first|(with_reducible first|exact HB.out|apply below_alloc|apply pw_below_drewN|apply below_drew1|refine below_set ?_ GE183.out|refine below_set ?_ GE184.out)|exact HB.out))));have n3_:=Aside0.mk (Kd.R_lower (Kd.R_new' ho1 (Kd.R_lt (by (with_reducible repeat (first|apply Kd.R_alloc|apply Kd.R_drewN|apply Kd.R_drew));exact HO193.out))) (below_size (by repeat (first|(with_reducible first|exact HB.out|apply below_alloc|apply pw_below_drewN|apply below_drew1|refine below_set ?_ GE183.out|refine below_set ?_ GE184.out)|exact HB.out))));have n4_:=Aside0.mk (blk_below (g:=gb183) (o:=.cells #[.string a0_0,.slice A0_1 l0_1.length c0_1,.slice A0_2 l0_2.length c0_2] 39 (0,0)) (by (with_reducible repeat (first|refine blk_drewN ?_ _|refine blk_drew ?_|refine blk_alloc ?_ _));exact BK183.out) hb);have n5_:=Aside0.mk (blk_below (g:=gb184) (o:=.cells #[.string a1_0,.string a1_1] 23 (0,0)) (by (with_reducible repeat (first|refine blk_drewN ?_ _|refine blk_drew ?_|refine blk_alloc ?_ _));exact BK184.out) hb);have n6_:=Aside0.mk (below_step (by repeat (first|(with_reducible first|exact HB.out|apply below_alloc|apply pw_below_drewN|apply below_drew1|refine below_set ?_ GE183.out|refine below_set ?_ GE184.out)|exact HB.out)) hb);clear HO190;clear HO193;clear BK183;clear BK184;clear HB;have HO190:=n0_;have HO193:=n1_;have HO200:=n2_;have HO203:=n3_;have BK183:=n4_;have BK184:=n5_;have HB:=n6_;clear n0_ n1_ n2_ n3_ n4_ n5_ n6_;(try clear hb);(try clear hb2);(try clear hk);(try clear hi);(try clear ho0);(try clear ho1))|((with_reducible refine gate_dst (N:=7) rfl ?_);refine box_event ?hg (N:=7) ?hd (cs:=#[.string (⟨#[]⟩:ByteArray),.slice none 0 0,.slice none 0 0]) (t:=44) ?hr ?_;(case hd=>rfl);(case hg=>rfl);(case hr=>first|(go_simp;done)|(go_simp;rfl));intro gb204 hg w99 hbox hb;have n0_:=Aside0.mk (Kd.R_below (by (with_reducible repeat (first|apply Kd.R_alloc|apply Kd.R_drewN|apply Kd.R_drew));exact HO190.out) hb);have n1_:=Aside0.mk (Kd.R_below (by (with_reducible repeat (first|apply Kd.R_alloc|apply Kd.R_drewN|apply Kd.R_drew));exact HO193.out) hb);have n2_:=Aside0.mk (Kd.R_below (by (with_reducible repeat (first|apply Kd.R_alloc|apply Kd.R_drewN|apply Kd.R_drew));exact HO200.out) hb);have n3_:=Aside0.mk (Kd.R_below (by (with_reducible repeat (first|apply Kd.R_alloc|apply Kd.R_drewN|apply Kd.R_drew));exact HO203.out) hb);have n4_:=Aside0.mk (blk_below (g:=gb183) (o:=.cells #[.string a0_0,.slice A0_1 l0_1.length c0_1,.slice A0_2 l0_2.length c0_2] 39 (0,0)) (by (with_reducible repeat (first|refine blk_drewN ?_ _|refine blk_drew ?_|refine blk_alloc ?_ _));exact BK183.out) hb);have n5_:=Aside0.mk (blk_below (g:=gb184) (o:=.cells #[.string a1_0,.string a1_1] 23 (0,0)) (by (with_reducible repeat (first|refine blk_drewN ?_ _|refine blk_drew ?_|refine blk_alloc ?_ _));exact BK184.out) hb);have n6_:=Aside0.mk (below_step (by repeat (first|(with_reducible first|exact HB.out|apply below_alloc|apply pw_below_drewN|apply below_drew1|refine below_set ?_ GE183.out|refine below_set ?_ GE184.out)|exact HB.out)) hb);have n7_:=Aside0.mk (hbox);have n8_:=Aside0.mk ((by rw [hg];exact (below_size (by repeat (first|(with_reducible first|exact HB.out|apply below_alloc|apply pw_below_drewN|apply below_drew1|refine below_set ?_ GE183.out|refine below_set ?_ GE184.out)|exact HB.out))):w.heap.size≤gb204));have n9_:=Aside0.mk ((by rw [hg];exact (below_size (by repeat (first|(with_reducible first|exact HB.out|apply below_alloc|apply pw_below_drewN|apply below_drew1|refine below_set ?_ GE183.out|refine below_set ?_ GE184.out)|exact HB.out))):w.heap.size≤gb204));have n10_:=Aside0.mk ((by rw [hg];exact Nat.ne_of_lt (blk_lt (g:=gb183) (o:=.cells #[.string a0_0,.slice A0_1 l0_1.length c0_1,.slice A0_2 l0_2.length c0_2] 39 (0,0)) (by (with_reducible repeat (first|refine blk_drewN ?_ _|refine blk_drew ?_|refine blk_alloc ?_ _));exact BK183.out)):gb183≠gb204));have n11_:=Aside0.mk ((by rw [hg];exact Nat.ne_of_gt (blk_lt (g:=gb183) (o:=.cells #[.string a0_0,.slice A0_1 l0_1.length c0_1,.slice A0_2 l0_2.length c0_2] 39 (0,0)) (by (with_reducible repeat (first|refine blk_drewN ?_ _|refine blk_drew ?_|refine blk_alloc ?_ _));exact BK183.out)):gb204≠gb183));have n12_:=Aside0.mk ((by rw [hg];exact Nat.ne_of_lt (blk_lt (g:=gb184) (o:=.cells #[.string a1_0,.string a1_1] 23 (0,0)) (by (with_reducible repeat (first|refine blk_drewN ?_ _|refine blk_drew ?_|refine blk_alloc ?_ _));exact BK184.out)):gb184≠gb204));have n13_:=Aside0.mk ((by rw [hg];exact Nat.ne_of_gt (blk_lt (g:=gb184) (o:=.cells #[.string a1_0,.string a1_1] 23 (0,0)) (by (with_reducible repeat (first|refine blk_drewN ?_ _|refine blk_drew ?_|refine blk_alloc ?_ _));exact BK184.out)):gb204≠gb184));clear HO190;clear HO193;clear HO200;clear HO203;clear BK183;clear BK184;clear HB;have HO190:=n0_;have HO193:=n1_;have HO200:=n2_;have HO203:=n3_;have BK183:=n4_;have BK184:=n5_;have HB:=n6_;have BK204:=n7_;have GW204:=n8_;have GE204:=n9_;have NB183_204:=n10_;have NB204_183:=n11_;have NB184_204:=n12_;have NB204_184:=n13_;clear n0_ n1_ n2_ n3_ n4_ n5_ n6_ n7_ n8_ n9_ n10_ n11_ n12_ n13_;clear hb hbox hg;have hnb100:=NB204_183.out;have hnc100:=NB183_204.out;have hnb101:=NB204_184.out;have hnc101:=NB184_204.out;have hcz102_0:w99.cell? ⟨gb204,0,none⟩=some (.string (⟨#[]⟩:ByteArray)):=(blk_cell BK204.out 0).trans rfl;have hcz102_1:w99.cell? ⟨gb204,1,none⟩=some (.slice none 0 0):=(blk_cell BK204.out 1).trans rfl;have hcz102_2:w99.cell? ⟨gb204,2,none⟩=some (.slice none 0 0):=(blk_cell BK204.out 2).trans rfl;have hfz102_0:=blk_frozen BK204.out 0;have hfz102_1:=blk_frozen BK204.out 1;have hfz102_2:=blk_frozen BK204.out 2;obtain ⟨Ao103,co103,eo103⟩:=Kd.R_slice HO200.out;subst eo103;obtain ⟨Ao104,co104,eo104⟩:=Kd.R_slice HO203.out;subst eo104))
          have n0_:Aside0 (Kd.R Kd.string 9 (((w99.setCell ⟨gb204,0,none⟩ (.string t197)).setCell ⟨gb204,1,none⟩ (.slice Ao103 t198.length co103)).setCell ⟨gb204,2,none⟩ (.slice Ao104 t201.length co104)) w.heap.size (fun k_=>some k_≠(.slice Ao103 t198.length co103:Value).ownBlock) (.slice Ao94 t188.length co94) t188):=⟨by (with_reducible repeat (first|apply Kd.R_alloc|apply Kd.R_drewN|apply Kd.R_drew));exact Kd.R_mono (Kd.R_far (p:=⟨gb204,2,none⟩) (Kd.R_far (p:=⟨gb204,1,none⟩) (Kd.R_far (p:=⟨gb204,0,none⟩) (Kd.R_types HO190.out BK204.out (by decide)) (fun _ hk=>hk.2) (.string t197)) (fun _ hk=>hk.2) (.slice Ao103 t198.length co103)) (fun _ hk=>hk.2) (.slice Ao104 t201.length co104)) (fun _ hk=>hk.1.2)⟩
          have n1_:Aside0 (Kd.R k117 117 (((w99.setCell ⟨gb204,0,none⟩ (.string t197)).setCell ⟨gb204,1,none⟩ (.slice Ao103 t198.length co103)).setCell ⟨gb204,2,none⟩ (.slice Ao104 t201.length co104)) w.heap.size (fun k_=>some k_≠(.slice Ao104 t201.length co104:Value).ownBlock) (.slice Ao95 t191.length co95) t191):=⟨by (with_reducible repeat (first|apply Kd.R_alloc|apply Kd.R_drewN|apply Kd.R_drew));exact Kd.R_mono (Kd.R_far (p:=⟨gb204,2,none⟩) (Kd.R_far (p:=⟨gb204,1,none⟩) (Kd.R_far (p:=⟨gb204,0,none⟩) (Kd.R_types HO193.out BK204.out (by decide)) (fun _ hk=>hk.2) (.string t197)) (fun _ hk=>hk.2) (.slice Ao103 t198.length co103)) (fun _ hk=>hk.2) (.slice Ao104 t201.length co104)) (fun _ hk=>hk.1.2)⟩
          have n2_:Aside0 (Kd.R Kd.string 9 (((w99.setCell ⟨gb204,0,none⟩ (.string t197)).setCell ⟨gb204,1,none⟩ (.slice Ao103 t198.length co103)).setCell ⟨gb204,2,none⟩ (.slice Ao104 t201.length co104)) w.heap.size (fun k_=>some k_≠(.slice Ao94 t188.length co94:Value).ownBlock) (.slice Ao103 t198.length co103) t198):=⟨by (with_reducible repeat (first|apply Kd.R_alloc|apply Kd.R_drewN|apply Kd.R_drew));exact Kd.R_mono (Kd.R_far (p:=⟨gb204,2,none⟩) (Kd.R_far (p:=⟨gb204,1,none⟩) (Kd.R_far (p:=⟨gb204,0,none⟩) (Kd.R_types HO200.out BK204.out (by decide)) (fun _ hk=>hk.2) (.string t197)) (fun _ hk=>hk.2) (.slice Ao103 t198.length co103)) (fun _ hk=>hk.2) (.slice Ao104 t201.length co104)) (fun _ hk=>hk.1.2)⟩
          have n3_:Aside0 (Kd.R k117 117 (((w99.setCell ⟨gb204,0,none⟩ (.string t197)).setCell ⟨gb204,1,none⟩ (.slice Ao103 t198.length co103)).setCell ⟨gb204,2,none⟩ (.slice Ao104 t201.length co104)) w.heap.size (fun k_=>some k_≠(.slice Ao95 t191.length co95:Value).ownBlock) (.slice Ao104 t201.length co104) t201):=⟨by (with_reducible repeat (first|apply Kd.R_alloc|apply Kd.R_drewN|apply Kd.R_drew));exact Kd.R_mono (Kd.R_far (p:=⟨gb204,2,none⟩) (Kd.R_far (p:=⟨gb204,1,none⟩) (Kd.R_far (p:=⟨gb204,0,none⟩) (Kd.R_types HO203.out BK204.out (by decide)) (fun _ hk=>hk.2) (.string t197)) (fun _ hk=>hk.2) (.slice Ao103 t198.length co103)) (fun _ hk=>hk.2) (.slice Ao104 t201.length co104)) (fun _ hk=>hk.1.2)⟩
          have n4_:Aside0 ((((w99.setCell ⟨gb204,0,none⟩ (.string t197)).setCell ⟨gb204,1,none⟩ (.slice Ao103 t198.length co103)).setCell ⟨gb204,2,none⟩ (.slice Ao104 t201.length co104)).heap[gb183]?=some (.cells #[.string a0_0,.slice A0_1 l0_1.length c0_1,.slice A0_2 l0_2.length c0_2] 39 (0,0))):=⟨by (with_reducible repeat (first|refine blk_drewN ?_ _|refine blk_drew ?_|refine blk_alloc ?_ _));refine blk_far ?_ NB183_204.out _;(with_reducible repeat (first|refine blk_drewN ?_ _|refine blk_drew ?_|refine blk_alloc ?_ _));refine blk_far ?_ NB183_204.out _;(with_reducible repeat (first|refine blk_drewN ?_ _|refine blk_drew ?_|refine blk_alloc ?_ _));refine blk_far ?_ NB183_204.out _;(with_reducible repeat (first|refine blk_drewN ?_ _|refine blk_drew ?_|refine blk_alloc ?_ _));exact BK183.out⟩
          have n5_:Aside0 ((((w99.setCell ⟨gb204,0,none⟩ (.string t197)).setCell ⟨gb204,1,none⟩ (.slice Ao103 t198.length co103)).setCell ⟨gb204,2,none⟩ (.slice Ao104 t201.length co104)).heap[gb184]?=some (.cells #[.string a1_0,.string a1_1] 23 (0,0))):=⟨by (with_reducible repeat (first|refine blk_drewN ?_ _|refine blk_drew ?_|refine blk_alloc ?_ _));refine blk_far ?_ NB184_204.out _;(with_reducible repeat (first|refine blk_drewN ?_ _|refine blk_drew ?_|refine blk_alloc ?_ _));refine blk_far ?_ NB184_204.out _;(with_reducible repeat (first|refine blk_drewN ?_ _|refine blk_drew ?_|refine blk_alloc ?_ _));refine blk_far ?_ NB184_204.out _;(with_reducible repeat (first|refine blk_drewN ?_ _|refine blk_drew ?_|refine blk_alloc ?_ _));exact BK184.out⟩
          have n6_:Aside0 ((((w99.setCell ⟨gb204,0,none⟩ (.string t197)).setCell ⟨gb204,1,none⟩ (.slice Ao103 t198.length co103)).setCell ⟨gb204,2,none⟩ (.slice Ao104 t201.length co104)).heap[gb204]?=some (.cells #[.string t197,.slice Ao103 t198.length co103,.slice Ao104 t201.length co104] 44 (0,0))):=⟨by (with_reducible repeat (first|refine blk_drewN ?_ _|refine blk_drew ?_|refine blk_alloc ?_ _));refine blk_put (cs:=#[.string t197,.slice Ao103 t198.length co103,.slice none 0 0]) ?_ 2 _ rfl;(with_reducible repeat (first|refine blk_drewN ?_ _|refine blk_drew ?_|refine blk_alloc ?_ _));refine blk_put (cs:=#[.string t197,.slice none 0 0,.slice none 0 0]) ?_ 1 _ rfl;(with_reducible repeat (first|refine blk_drewN ?_ _|refine blk_drew ?_|refine blk_alloc ?_ _));refine blk_put (cs:=#[.string (⟨#[]⟩:ByteArray),.slice none 0 0,.slice none 0 0]) ?_ 0 _ rfl;(with_reducible repeat (first|refine blk_drewN ?_ _|refine blk_drew ?_|refine blk_alloc ?_ _));exact BK204.out⟩
          have n7_:Aside0 (Below w.heap.size w (((w99.setCell ⟨gb204,0,none⟩ (.string t197)).setCell ⟨gb204,1,none⟩ (.slice Ao103 t198.length co103)).setCell ⟨gb204,2,none⟩ (.slice Ao104 t201.length co104))):=⟨by repeat (first|(with_reducible first|exact HB.out|apply below_alloc|apply pw_below_drewN|apply below_drew1|refine below_set ?_ GE183.out|refine below_set ?_ GE184.out|refine below_set ?_ GE204.out)|exact HB.out)⟩
          (try clear HO190)
          (try clear HO193)
          (try clear HO200)
          (try clear HO203)
          (try clear BK183)
          (try clear BK184)
          (try clear BK204)
          (try clear HB)
          generalize (((w99.setCell ⟨gb204,0,none⟩ (.string t197)).setCell ⟨gb204,1,none⟩ (.slice Ao103 t198.length co103)).setCell ⟨gb204,2,none⟩ (.slice Ao104 t201.length co104))=w105 at n0_ n1_ n2_ n3_ n4_ n5_ n6_ n7_ ⊢
          have HO190:=n0_
          have HO193:=n1_
          have HO200:=n2_
          have HO203:=n3_
          have BK183:=n4_
          have BK184:=n5_
          have BK204:=n6_
          have HB:=n7_
          clear n0_ n1_ n2_ n3_ n4_ n5_ n6_ n7_
          have n0_:=Aside0.mk (Kd.R_drew HO190.out)
          have n1_:=Aside0.mk (Kd.R_drew HO193.out)
          have n2_:=Aside0.mk (Kd.R_drew HO200.out)
          have n3_:=Aside0.mk (Kd.R_drew HO203.out)
          have n4_:=Aside0.mk (blk_drew BK183.out)
          have n5_:=Aside0.mk (blk_drew BK184.out)
          have n6_:=Aside0.mk (blk_drew BK204.out)
          have n7_:=Aside0.mk (below_drew1 HB.out)
          clear HO190
          clear HO193
          clear HO200
          clear HO203
          clear BK183
          clear BK184
          clear BK204
          clear HB
          have HO190:=n0_
          have HO193:=n1_
          have HO200:=n2_
          have HO203:=n3_
          have BK183:=n4_
          have BK184:=n5_
          have BK204:=n6_
          have HB:=n7_
          clear n0_ n1_ n2_ n3_ n4_ n5_ n6_ n7_
          refine start_ (n:=5) (S:=fun w'=>w'.cell? ⟨gb204,0,none⟩=some (.string t197)∧w'.cell? ⟨gb204,1,none⟩=some (.slice Ao103 t198.length co103)∧w'.cell? ⟨gb204,2,none⟩=some (.slice Ao104 t201.length co104)∧w'.cell? ⟨gb184,0,none⟩=some (.string a1_0)∧w'.cell? ⟨gb184,1,none⟩=some (.string a1_1)) (ds:=[]) #[false,false,false,false,false] (by kernel_rfl) rfl rfl ⟨(blk_cell BK204.out 0).trans rfl,(blk_cell BK204.out 1).trans rfl,(blk_cell BK204.out 2).trans rfl,(blk_cell BK184.out 0).trans rfl,(blk_cell BK184.out 1).trans rfl⟩ (fun hHeld=>?_)
          generalize w105.drew=w106 at HO190 HO193 HO200 HO203 BK183 BK184 BK204 HB hHeld ⊢
          refine take_ (i:=0) (N:=some 26) (v:=?_) (a':=?_) #[true,false,false,false,false] rfl rfl (by kernel_rfl) (fun _ _ _ h=>h) (Or.inl ⟨by rfl,?_⟩) hHeld ?_ ?_
          rotate_left
          · rintro w' ⟨s0,s1,s2,s3,s4⟩
            go_simp
            with_reducible rfl
          rotate_left
          · simp only [Act.put,List.setIfInBounds_toArray,List.set_cons_zero,List.set_cons_succ,i64_w,i32_w]
            rfl
          refine take_ (i:=1) (N:=some 27) (v:=?_) (a':=?_) #[true,true,false,false,false] rfl rfl (by kernel_rfl) (fun _ _ _ h=>h) (Or.inl ⟨by rfl,?_⟩) hHeld ?_ ?_
          rotate_left
          · rintro w' ⟨s0,s1,s2,s3,s4⟩
            go_simp
            with_reducible rfl
          rotate_left
          · simp only [Act.put,List.setIfInBounds_toArray,List.set_cons_zero,List.set_cons_succ,i64_w,i32_w]
            rfl
          refine one_ (i:=2) (N:=some 28) #[true,true,true,false,false] rfl rfl (by kernel_rfl) (by decide) (fun K hK=>?_)
          refine goes_ Tryd.func22 (by kernel_rfl) rfl #[.agg #[.string a1_0,.string a1_1]] (by rfl) rfl rfl (by (try simp only [List.map_toArray,List.map_cons,List.map_nil]);first|done|rfl|(simp only [List.length_drop,List.length_take];rfl)) ?_
          with_reducible refine (laws_toAddr.calls a1_0 a1_1 t205 t206 _ A23.out).mono ?_
          rintro e w107 ⟨rfl,hb⟩
          refine ⟨_,rfl,?_⟩
          have n0_:=Aside0.mk (Kd.R_below (by (with_reducible repeat (first|apply Kd.R_alloc|apply Kd.R_drewN|apply Kd.R_drew));exact HO190.out) hb)
          have n1_:=Aside0.mk (Kd.R_below (by (with_reducible repeat (first|apply Kd.R_alloc|apply Kd.R_drewN|apply Kd.R_drew));exact HO193.out) hb)
          have n2_:=Aside0.mk (Kd.R_below (by (with_reducible repeat (first|apply Kd.R_alloc|apply Kd.R_drewN|apply Kd.R_drew));exact HO200.out) hb)
          have n3_:=Aside0.mk (Kd.R_below (by (with_reducible repeat (first|apply Kd.R_alloc|apply Kd.R_drewN|apply Kd.R_drew));exact HO203.out) hb)
          have n4_:=Aside0.mk (blk_below (g:=gb183) (o:=.cells #[.string a0_0,.slice A0_1 l0_1.length c0_1,.slice A0_2 l0_2.length c0_2] 39 (0,0)) (by (with_reducible repeat (first|refine blk_drewN ?_ _|refine blk_drew ?_|refine blk_alloc ?_ _));exact BK183.out) hb)
          have n5_:=Aside0.mk (blk_below (g:=gb184) (o:=.cells #[.string a1_0,.string a1_1] 23 (0,0)) (by (with_reducible repeat (first|refine blk_drewN ?_ _|refine blk_drew ?_|refine blk_alloc ?_ _));exact BK184.out) hb)
          have n6_:=Aside0.mk (blk_below (g:=gb204) (o:=.cells #[.string t197,.slice Ao103 t198.length co103,.slice Ao104 t201.length co104] 44 (0,0)) (by (with_reducible repeat (first|refine blk_drewN ?_ _|refine blk_drew ?_|refine blk_alloc ?_ _));exact BK204.out) hb)
          have n7_:=Aside0.mk (below_step (by repeat (first|(with_reducible first|exact HB.out|apply below_alloc|apply pw_below_drewN|apply below_drew1|refine below_set ?_ GE183.out|refine below_set ?_ GE184.out|refine below_set ?_ GE204.out)|exact HB.out)) hb)
          clear HO190
          clear HO193
          clear HO200
          clear HO203
          clear BK183
          clear BK184
          clear BK204
          clear HB
          have HO190:=n0_
          have HO193:=n1_
          have HO200:=n2_
          have HO203:=n3_
          have BK183:=n4_
          have BK184:=n5_
          have BK204:=n6_
          have HB:=n7_
          clear n0_ n1_ n2_ n3_ n4_ n5_ n6_ n7_
          (try clear hb)
          (try clear hb2)
          (try clear hk)
          (try clear hi)
          refine hK.out _ _ ⟨(blk_cell BK204.out 0).trans rfl,(blk_cell BK204.out 1).trans rfl,(blk_cell BK204.out 2).trans rfl,(blk_cell BK184.out 0).trans rfl,(blk_cell BK184.out 1).trans rfl⟩ (fun hHeld=>?_)
          clear hK K
          refine norm_ (a':=?_) ?_ ?_
          rotate_left
          · show Act.put _ (some 28) _=_
            simp only [Act.put,List.setIfInBounds_toArray,List.set_cons_zero,List.set_cons_succ,i64_w,i32_w]
            rfl
          refine one_ (i:=3) (N:=some 29) #[true,true,true,true,false] rfl rfl (by kernel_rfl) (by decide) (fun K hK=>?_)
          refine goes_ Tryd.func23 (by kernel_rfl) rfl #[.agg #[.string t197,.slice Ao103 t198.length co103,.slice Ao104 t201.length co104],.agg #[.string t205,.string t206]] (by rfl) rfl rfl (by (try simp only [List.map_toArray,List.map_cons,List.map_nil]);first|done|rfl|(simp only [List.length_drop,List.length_take];rfl)) ?_
          with_reducible refine (impl_ConfTakes.calls k t197 _ _ t198 _ _ t201 t205 t206 t207 _ ?side1 ?side2 ?side3 ?side4 ?side5 A24.out).mono ?_
          (case side1=>repeat (first|exact (Kd.R_reads' HO200.out).2.2|(with_reducible refine Kd.C_alloc ?_ _)|(with_reducible refine Kd.C_drewN ?_ _)|(with_reducible refine Kd.C_drew ?_)))
          (case side2=>exact (Kd.R_reads' HO200.out).2.1)
          (case side3=>repeat (first|exact (Kd.R_reads' HO203.out).2.2|(with_reducible refine Kd.C_alloc ?_ _)|(with_reducible refine Kd.C_drewN ?_ _)|(with_reducible refine Kd.C_drew ?_)))
          (case side4=>exact (Kd.R_reads' HO203.out).2.1)
          (case side5=>first|(with_reducible exact HG.out)|((with_reducible repeat (first|exact HG.out|apply GOK.drewN|apply GOK.drew));done)|exact GOK.below HG.out (by repeat (first|(with_reducible first|exact HB.out|apply below_alloc|apply pw_below_drewN|apply below_drew1|refine below_set ?_ GE183.out|refine below_set ?_ GE184.out|refine below_set ?_ GE204.out)|exact HB.out)))
          rintro e w108 ⟨rfl,hb⟩
          refine ⟨_,rfl,?_⟩
          have n0_:=Aside0.mk (Kd.R_below (by (with_reducible repeat (first|apply Kd.R_alloc|apply Kd.R_drewN|apply Kd.R_drew));exact HO190.out) hb)
          have n1_:=Aside0.mk (Kd.R_below (by (with_reducible repeat (first|apply Kd.R_alloc|apply Kd.R_drewN|apply Kd.R_drew));exact HO193.out) hb)
          have n2_:=Aside0.mk (Kd.R_below (by (with_reducible repeat (first|apply Kd.R_alloc|apply Kd.R_drewN|apply Kd.R_drew));exact HO200.out) hb)
          have n3_:=Aside0.mk (Kd.R_below (by (with_reducible repeat (first|apply Kd.R_alloc|apply Kd.R_drewN|apply Kd.R_drew));exact HO203.out) hb)
          have n4_:=Aside0.mk (blk_below (g:=gb183) (o:=.cells #[.string a0_0,.slice A0_1 l0_1.length c0_1,.slice A0_2 l0_2.length c0_2] 39 (0,0)) (by (with_reducible repeat (first|refine blk_drewN ?_ _|refine blk_drew ?_|refine blk_alloc ?_ _));exact BK183.out) hb)
          have n5_:=Aside0.mk (blk_below (g:=gb184) (o:=.cells #[.string a1_0,.string a1_1] 23 (0,0)) (by (with_reducible repeat (first|refine blk_drewN ?_ _|refine blk_drew ?_|refine blk_alloc ?_ _));exact BK184.out) hb)
          have n6_:=Aside0.mk (blk_below (g:=gb204) (o:=.cells #[.string t197,.slice Ao103 t198.length co103,.slice Ao104 t201.length co104] 44 (0,0)) (by (with_reducible repeat (first|refine blk_drewN ?_ _|refine blk_drew ?_|refine blk_alloc ?_ _));exact BK204.out) hb)
          have n7_:=Aside0.mk (below_step (by repeat (first|(with_reducible first|exact HB.out|apply below_alloc|apply pw_below_drewN|apply below_drew1|refine below_set ?_ GE183.out|refine below_set ?_ GE184.out|refine below_set ?_ GE204.out)|exact HB.out)) hb)
          clear HO190
          clear HO193
          clear HO200
          clear HO203
          clear BK183
          clear BK184
          clear BK204
          clear HB
          have HO190:=n0_
          have HO193:=n1_
          have HO200:=n2_
          have HO203:=n3_
          have BK183:=n4_
          have BK184:=n5_
          have BK204:=n6_
          have HB:=n7_
          clear n0_ n1_ n2_ n3_ n4_ n5_ n6_ n7_
          (try clear hb)
          (try clear hb2)
          (try clear hk)
          (try clear hi)
          refine hK.out _ _ ⟨(blk_cell BK204.out 0).trans rfl,(blk_cell BK204.out 1).trans rfl,(blk_cell BK204.out 2).trans rfl,(blk_cell BK184.out 0).trans rfl,(blk_cell BK184.out 1).trans rfl⟩ (fun hHeld=>?_)
          clear hK K
          refine norm_ (a':=?_) ?_ ?_
          rotate_left
          · show Act.put _ (some 29) _=_
            simp only [Act.put,List.setIfInBounds_toArray,List.set_cons_zero,List.set_cons_succ,i64_w,i32_w]
            rfl
          refine pure_ (i:=4) (N:=some 8) (v:=?_) (a':=?_) #[true,true,true,true,true] rfl rfl (by kernel_rfl) (fun _ _ _ h=>h) (Or.inl ⟨by rfl,?_⟩) ?_ ?_
          rotate_left
          · intro w'
            go_simp
            with_reducible rfl
          rotate_left
          · simp only [Act.put,List.setIfInBounds_toArray,List.set_cons_zero,List.set_cons_succ,i64_w,i32_w]
            rfl
          refine done_ (by kernel_rfl) ?_
          try go_wp2
          have n0_:=Aside0.mk (Kd.R_drew HO190.out)
          have n1_:=Aside0.mk (Kd.R_drew HO193.out)
          have n2_:=Aside0.mk (Kd.R_drew HO200.out)
          have n3_:=Aside0.mk (Kd.R_drew HO203.out)
          have n4_:=Aside0.mk (blk_drew BK183.out)
          have n5_:=Aside0.mk (blk_drew BK184.out)
          have n6_:=Aside0.mk (blk_drew BK204.out)
          have n7_:=Aside0.mk (below_drew1 HB.out)
          clear HO190
          clear HO193
          clear HO200
          clear HO203
          clear BK183
          clear BK184
          clear BK204
          clear HB
          have HO190:=n0_
          have HO193:=n1_
          have HO200:=n2_
          have HO203:=n3_
          have BK183:=n4_
          have BK184:=n5_
          have BK204:=n6_
          have HB:=n7_
          clear n0_ n1_ n2_ n3_ n4_ n5_ n6_ n7_
          refine start_ (n:=5) (S:=fun w'=>w'.cell? ⟨gb204,0,none⟩=some (.string t197)∧w'.cell? ⟨gb204,1,none⟩=some (.slice Ao103 t198.length co103)∧w'.cell? ⟨gb204,2,none⟩=some (.slice Ao104 t201.length co104)∧w'.cell? ⟨gb183,0,none⟩=some (.string a0_0)∧w'.cell? ⟨gb183,1,none⟩=some (.slice A0_1 l0_1.length c0_1)∧w'.cell? ⟨gb183,2,none⟩=some (.slice A0_2 l0_2.length c0_2)) (ds:=[]) #[false,false,false,false,false] (by kernel_rfl) rfl rfl ⟨(blk_cell BK204.out 0).trans rfl,(blk_cell BK204.out 1).trans rfl,(blk_cell BK204.out 2).trans rfl,(blk_cell BK183.out 0).trans rfl,(blk_cell BK183.out 1).trans rfl,(blk_cell BK183.out 2).trans rfl⟩ (fun hHeld=>?_)
          generalize w108.drew=w109 at HO190 HO193 HO200 HO203 BK183 BK184 BK204 HB hHeld ⊢
          refine take_ (i:=0) (N:=some 33) (v:=?_) (a':=?_) #[true,false,false,false,false] rfl rfl (by kernel_rfl) (fun _ _ _ h=>h) (Or.inl ⟨by rfl,?_⟩) hHeld ?_ ?_
          rotate_left
          · rintro w' ⟨s0,s1,s2,s3,s4,s5⟩
            go_simp
            with_reducible rfl
          rotate_left
          · simp only [Act.put,List.setIfInBounds_toArray,List.set_cons_zero,List.set_cons_succ,i64_w,i32_w]
            rfl
          refine take_ (i:=1) (N:=some 34) (v:=?_) (a':=?_) #[true,true,false,false,false] rfl rfl (by kernel_rfl) (fun _ _ _ h=>h) (Or.inl ⟨by rfl,?_⟩) hHeld ?_ ?_
          rotate_left
          · rintro w' ⟨s0,s1,s2,s3,s4,s5⟩
            go_simp
            with_reducible rfl
          rotate_left
          · simp only [Act.put,List.setIfInBounds_toArray,List.set_cons_zero,List.set_cons_succ,i64_w,i32_w]
            rfl
          refine one_ (i:=2) (N:=some 35) #[true,true,true,false,false] rfl rfl (by kernel_rfl) (by decide) (fun K hK=>?_)
          refine goes_ Tryd.func17 (by kernel_rfl) rfl #[.agg #[.string a0_0,.slice A0_1 l0_1.length c0_1,.slice A0_2 l0_2.length c0_2]] (by rfl) rfl rfl (by (try simp only [List.map_toArray,List.map_cons,List.map_nil]);first|done|rfl|(simp only [List.length_drop,List.length_take];rfl)) ?_
          with_reducible refine (laws_toConf.calls k a0_0 _ _ l0_1 _ _ l0_2 t208 t209 t212 _ ?side1 ?side2 ?side3 ?side4 A51.out).mono ?_
          (case side1=>repeat (first|exact (Kd.C_below HR0_1.out HB.out)|(with_reducible refine Kd.C_alloc ?_ _)|(with_reducible refine Kd.C_drewN ?_ _)|(with_reducible refine Kd.C_drew ?_)))
          (case side2=>exact HC0_1.out)
          (case side3=>repeat (first|exact (Kd.C_below HR0_2.out HB.out)|(with_reducible refine Kd.C_alloc ?_ _)|(with_reducible refine Kd.C_drewN ?_ _)|(with_reducible refine Kd.C_drew ?_)))
          (case side4=>exact HC0_2.out)
          rintro e w110 ⟨v210,v213,rfl,ho0,ho1,hb⟩
          refine ⟨_,rfl,?_⟩
          have n0_:=Aside0.mk (Kd.R_elder' (by (with_reducible repeat (first|apply Kd.R_alloc|apply Kd.R_drewN|apply Kd.R_drew));exact HO190.out) (Kd.R_base ho0) hb)
          have n1_:=Aside0.mk (Kd.R_elder' (by (with_reducible repeat (first|apply Kd.R_alloc|apply Kd.R_drewN|apply Kd.R_drew));exact HO193.out) (Kd.R_base ho1) hb)
          have n2_:=Aside0.mk (Kd.R_elder' (by (with_reducible repeat (first|apply Kd.R_alloc|apply Kd.R_drewN|apply Kd.R_drew));exact HO200.out) (Kd.R_base ho0) hb)
          have n3_:=Aside0.mk (Kd.R_elder' (by (with_reducible repeat (first|apply Kd.R_alloc|apply Kd.R_drewN|apply Kd.R_drew));exact HO203.out) (Kd.R_base ho1) hb)
          have n4_:=Aside0.mk (Kd.R_lower (Kd.R_new' (Kd.R_new' ho0 (Kd.R_lt (by (with_reducible repeat (first|apply Kd.R_alloc|apply Kd.R_drewN|apply Kd.R_drew));exact HO190.out))) (Kd.R_lt (by (with_reducible repeat (first|apply Kd.R_alloc|apply Kd.R_drewN|apply Kd.R_drew));exact HO200.out))) (below_size (by repeat (first|(with_reducible first|exact HB.out|apply below_alloc|apply pw_below_drewN|apply below_drew1|refine below_set ?_ GE183.out|refine below_set ?_ GE184.out|refine below_set ?_ GE204.out)|exact HB.out))))
          have n5_:=Aside0.mk (Kd.R_lower (Kd.R_new' (Kd.R_new' ho1 (Kd.R_lt (by (with_reducible repeat (first|apply Kd.R_alloc|apply Kd.R_drewN|apply Kd.R_drew));exact HO193.out))) (Kd.R_lt (by (with_reducible repeat (first|apply Kd.R_alloc|apply Kd.R_drewN|apply Kd.R_drew));exact HO203.out))) (below_size (by repeat (first|(with_reducible first|exact HB.out|apply below_alloc|apply pw_below_drewN|apply below_drew1|refine below_set ?_ GE183.out|refine below_set ?_ GE184.out|refine below_set ?_ GE204.out)|exact HB.out))))
          have n6_:=Aside0.mk (blk_below (g:=gb183) (o:=.cells #[.string a0_0,.slice A0_1 l0_1.length c0_1,.slice A0_2 l0_2.length c0_2] 39 (0,0)) (by (with_reducible repeat (first|refine blk_drewN ?_ _|refine blk_drew ?_|refine blk_alloc ?_ _));exact BK183.out) hb)
          have n7_:=Aside0.mk (blk_below (g:=gb184) (o:=.cells #[.string a1_0,.string a1_1] 23 (0,0)) (by (with_reducible repeat (first|refine blk_drewN ?_ _|refine blk_drew ?_|refine blk_alloc ?_ _));exact BK184.out) hb)
          have n8_:=Aside0.mk (blk_below (g:=gb204) (o:=.cells #[.string t197,.slice Ao103 t198.length co103,.slice Ao104 t201.length co104] 44 (0,0)) (by (with_reducible repeat (first|refine blk_drewN ?_ _|refine blk_drew ?_|refine blk_alloc ?_ _));exact BK204.out) hb)
          have n9_:=Aside0.mk (below_step (by repeat (first|(with_reducible first|exact HB.out|apply below_alloc|apply pw_below_drewN|apply below_drew1|refine below_set ?_ GE183.out|refine below_set ?_ GE184.out|refine below_set ?_ GE204.out)|exact HB.out)) hb)
          clear HO190
          clear HO193
          clear HO200
          clear HO203
          clear BK183
          clear BK184
          clear BK204
          clear HB
          have HO190:=n0_
          have HO193:=n1_
          have HO200:=n2_
          have HO203:=n3_
          have HO211:=n4_
          have HO214:=n5_
          have BK183:=n6_
          have BK184:=n7_
          have BK204:=n8_
          have HB:=n9_
          clear n0_ n1_ n2_ n3_ n4_ n5_ n6_ n7_ n8_ n9_
          (try clear hb)
          (try clear hb2)
          (try clear hk)
          (try clear hi)
          (try clear ho0)
          (try clear ho1)
          obtain ⟨Ao111,co111,eo111⟩:=Kd.R_slice HO211.out
          (first|subst eo111|(injection eo111 with f1_ f2_ f3_;have f4_:=f1_.symm;have f5_:=f3_.symm;clear f1_ f2_ f3_;subst f4_;subst f5_))
          obtain ⟨Ao112,co112,eo112⟩:=Kd.R_slice HO214.out
          (first|subst eo112|(injection eo112 with f1_ f2_ f3_;have f4_:=f1_.symm;have f5_:=f3_.symm;clear f1_ f2_ f3_;subst f4_;subst f5_))
          refine hK.out _ _ ⟨(blk_cell BK204.out 0).trans rfl,(blk_cell BK204.out 1).trans rfl,(blk_cell BK204.out 2).trans rfl,(blk_cell BK183.out 0).trans rfl,(blk_cell BK183.out 1).trans rfl,(blk_cell BK183.out 2).trans rfl⟩ (fun hHeld=>?_)
          clear hK K
          refine norm_ (a':=?_) ?_ ?_
          rotate_left
          · show Act.put _ (some 35) _=_
            simp only [Act.put,List.setIfInBounds_toArray,List.set_cons_zero,List.set_cons_succ,i64_w,i32_w]
            rfl
          refine one_ (i:=3) (N:=some 36) #[true,true,true,true,false] rfl rfl (by kernel_rfl) (by decide) (fun K hK=>?_)
          refine goes_ Tryd.func19 (by kernel_rfl) rfl #[.agg #[.string t197,.slice Ao103 t198.length co103,.slice Ao104 t201.length co104],.agg #[.string t208,.slice Ao111 t209.length co111,.slice Ao112 t212.length co112]] (by rfl) rfl rfl (by (try simp only [List.map_toArray,List.map_cons,List.map_nil]);first|done|rfl|(simp only [List.length_drop,List.length_take];rfl)) ?_
          with_reducible refine (laws_eqConf.calls k t197 _ _ t198 _ _ t201 t208 _ _ t209 _ _ t212 false _ ?side1 ?side2 ?side3 ?side4 ?side5 ?side6 ?side7 ?side8 A52.out).mono ?_
          (case side1=>repeat (first|exact (Kd.R_reads' HO200.out).2.2|(with_reducible refine Kd.C_alloc ?_ _)|(with_reducible refine Kd.C_drewN ?_ _)|(with_reducible refine Kd.C_drew ?_)))
          (case side2=>exact (Kd.R_reads' HO200.out).2.1)
          (case side3=>repeat (first|exact (Kd.R_reads' HO203.out).2.2|(with_reducible refine Kd.C_alloc ?_ _)|(with_reducible refine Kd.C_drewN ?_ _)|(with_reducible refine Kd.C_drew ?_)))
          (case side4=>exact (Kd.R_reads' HO203.out).2.1)
          (case side5=>repeat (first|exact (Kd.R_reads' HO211.out).2.2|(with_reducible refine Kd.C_alloc ?_ _)|(with_reducible refine Kd.C_drewN ?_ _)|(with_reducible refine Kd.C_drew ?_)))
          (case side6=>exact (Kd.R_reads' HO211.out).2.1)
          (case side7=>repeat (first|exact (Kd.R_reads' HO214.out).2.2|(with_reducible refine Kd.C_alloc ?_ _)|(with_reducible refine Kd.C_drewN ?_ _)|(with_reducible refine Kd.C_drew ?_)))
          (case side8=>exact (Kd.R_reads' HO214.out).2.1)
          rintro e w113 ⟨rfl,hb⟩
          refine ⟨_,rfl,?_⟩
          have n0_:=Aside0.mk (Kd.R_below (by (with_reducible repeat (first|apply Kd.R_alloc|apply Kd.R_drewN|apply Kd.R_drew));exact HO190.out) hb)
          have n1_:=Aside0.mk (Kd.R_below (by (with_reducible repeat (first|apply Kd.R_alloc|apply Kd.R_drewN|apply Kd.R_drew));exact HO193.out) hb)
          have n2_:=Aside0.mk (Kd.R_below (by (with_reducible repeat (first|apply Kd.R_alloc|apply Kd.R_drewN|apply Kd.R_drew));exact HO200.out) hb)
          have n3_:=Aside0.mk (Kd.R_below (by (with_reducible repeat (first|apply Kd.R_alloc|apply Kd.R_drewN|apply Kd.R_drew));exact HO203.out) hb)
          have n4_:=Aside0.mk (Kd.R_below (by (with_reducible repeat (first|apply Kd.R_alloc|apply Kd.R_drewN|apply Kd.R_drew));exact HO211.out) hb)
          have n5_:=Aside0.mk (Kd.R_below (by (with_reducible repeat (first|apply Kd.R_alloc|apply Kd.R_drewN|apply Kd.R_drew));exact HO214.out) hb)
          have n6_:=Aside0.mk (blk_below (g:=gb183) (o:=.cells #[.string a0_0,.slice A0_1 l0_1.length c0_1,.slice A0_2 l0_2.length c0_2] 39 (0,0)) (by (with_reducible repeat (first|refine blk_drewN ?_ _|refine blk_drew ?_|refine blk_alloc ?_ _));exact BK183.out) hb)
          have n7_:=Aside0.mk (blk_below (g:=gb184) (o:=.cells #[.string a1_0,.string a1_1] 23 (0,0)) (by (with_reducible repeat (first|refine blk_drewN ?_ _|refine blk_drew ?_|refine blk_alloc ?_ _));exact BK184.out) hb)
          have n8_:=Aside0.mk (blk_below (g:=gb204) (o:=.cells #[.string t197,.slice Ao103 t198.length co103,.slice Ao104 t201.length co104] 44 (0,0)) (by (with_reducible repeat (first|refine blk_drewN ?_ _|refine blk_drew ?_|refine blk_alloc ?_ _));exact BK204.out) hb)
          have n9_:=Aside0.mk (below_step (by repeat (first|(with_reducible first|exact HB.out|apply below_alloc|apply pw_below_drewN|apply below_drew1|refine below_set ?_ GE183.out|refine below_set ?_ GE184.out|refine below_set ?_ GE204.out)|exact HB.out)) hb)
          clear HO190
          clear HO193
          clear HO200
          clear HO203
          clear HO211
          clear HO214
          clear BK183
          clear BK184
          clear BK204
          clear HB
          have HO190:=n0_
          have HO193:=n1_
          have HO200:=n2_
          have HO203:=n3_
          have HO211:=n4_
          have HO214:=n5_
          have BK183:=n6_
          have BK184:=n7_
          have BK204:=n8_
          have HB:=n9_
          clear n0_ n1_ n2_ n3_ n4_ n5_ n6_ n7_ n8_ n9_
          (try clear hb)
          (try clear hb2)
          (try clear hk)
          (try clear hi)
          refine hK.out _ _ ⟨(blk_cell BK204.out 0).trans rfl,(blk_cell BK204.out 1).trans rfl,(blk_cell BK204.out 2).trans rfl,(blk_cell BK183.out 0).trans rfl,(blk_cell BK183.out 1).trans rfl,(blk_cell BK183.out 2).trans rfl⟩ (fun hHeld=>?_)
          clear hK K
          refine norm_ (a':=?_) ?_ ?_
          rotate_left
          · show Act.put _ (some 36) _=_
            simp only [Act.put,List.setIfInBounds_toArray,List.set_cons_zero,List.set_cons_succ,i64_w,i32_w]
            rfl
          refine pure_ (i:=4) (N:=some 37) (v:=?_) (a':=?_) #[true,true,true,true,true] rfl rfl (by kernel_rfl) (fun _ _ _ h=>h) (Or.inl ⟨by rfl,?_⟩) ?_ ?_
          rotate_left
          · intro w'
            go_simp
            with_reducible rfl
          rotate_left
          · simp only [Act.put,List.setIfInBounds_toArray,List.set_cons_zero,List.set_cons_succ,i64_w,i32_w]
            rfl
          refine done_ (by kernel_rfl) ?_
          try go_wp2
          go_ret
          exact ⟨by first|rfl|(simp [errW_none,errW_some]<;>rfl)|(simp [*,errW_none,errW_some]<;>rfl),by repeat (first|(with_reducible first|exact HB.out|apply below_alloc|apply pw_below_drewN|apply below_drew1|refine below_set ?_ GE183.out|refine below_set ?_ GE184.out|refine below_set ?_ GE204.out)|exact HB.out)⟩
end Go.Proofs.YthkibaldmjfmmaaDoor.Q
