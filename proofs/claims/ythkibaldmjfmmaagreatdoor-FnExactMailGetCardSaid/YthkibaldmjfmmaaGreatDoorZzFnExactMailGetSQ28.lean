/- Of a text of ours what this claim needs. -/
import Derived.Test.YthkibaldmjfmmaaGreatDoorZzFnExactMailGetSQ0
import Derived.Test.YthkibaldmjfmmaaGreatDoorZzFnExactMailGetSQ16
import Derived.Test.YthkibaldmjfmmaaGreatDoorZzFnExactMailGetSQ22
import Derived.Test.YthkibaldmjfmmaaGreatDoorZzFnExactMailGetSQ24
import Derived.Test.YthkibaldmjfmmaaGreatDoorZzFnExactMailGetSQ25
import Derived.Test.YthkibaldmjfmmaaGreatDoorZzFnExactMailGetSQ27
import Derived.Test.YthkibaldmjfmmaaGreatDoorZzFnExactMailGetSHSplit
namespace Go.Proofs.YthkibaldmjfmmaaGreatDoor.Q
open Go.RowKit Go.Proofs.YthkibaldmjfmmaaGreatDoorW.PrintWords Go.Proofs.YthkibaldmjfmmaaGreatDoorW.PrintLast Go.Proofs.YthkibaldmjfmmaaGreatDoorW.PrintMore
attribute [local go_sem] max2_int min2_int max_two min_two max_three min_three max_four min_four
set_option linter.unusedVariables false
set_option linter.unusedSimpArgs false
mutual
def laws_FnExactMailGet.j0:Nat→ByteArray→Bool→Bool→ByteArray→ByteArray→List (S24)→List ByteArray→ByteArray→ByteArray→List (S24)→List ByteArray→Option (Bool)
 | 0,_,_,_,_,_,_,_,_,_,_,_=>none
 | k+1,x0,x4,x32,x149000,x149001,x149002,x149003,x159000,x159001,x159002,x159003=>if x32=true then (some false) else ((laws_markMail.f k x159000 x159001 x159002 x159003 1).bind fun bt160=>((laws_heldMail.f k x159000 x159001 bt160.2.1 bt160.2.2 1).bind fun t163=>(if t163 < 0 then (some false) else (if t163=bt160.1 then ((impl_MailGet.f k x0).bind fun bt164=>((laws_eqMail.f k bt164.1 bt164.2.1 bt164.2.2.1 bt164.2.2.2.1 x149000 x149001 x149002 x149003).bind fun t174=>(if t174=true then (laws_FnExactMailGet.j1 k bt160.1 (bt164.2.2.2.2 != x4) x159000 x159001 bt160.2.1 bt160.2.2) else (laws_FnExactMailGet.j1 k bt160.1 true x159000 x159001 bt160.2.1 bt160.2.2)))) else (some false)))))
def laws_FnExactMailGet.j1:Nat→Int→Bool→ByteArray→ByteArray→List (S24)→List ByteArray→Option (Bool)
 | 0,_,_,_,_,_,_=>none
 | k+1,x7,x57,x159000,x159001,x159002,x159003=>if x57=true then (some false) else ((laws_heldMail.f k x159000 x159001 x159002 x159003 1).bind fun t175=>(if t175 < 0 then (some false) else (if t175=x7 then (some true) else (some false))))
end
def laws_FnExactMailGet.f (k:Nat) (a0:ByteArray):Option (Bool):=if (a0.size:Int) > 1048576 then (some true) else ((spec_MailGet.f k a0).bind fun bt139=>((impl_MailGet.f k a0).bind fun bt149=>((laws_eqMail.f k bt149.1 bt149.2.1 bt149.2.2.1 bt149.2.2.2.1 bt139.1 bt139.2.1 bt139.2.2.1 bt139.2.2.2.1).bind fun t159=>(if t159=true then (laws_FnExactMailGet.j0 k a0 bt139.2.2.2.2 (bt149.2.2.2.2 != bt139.2.2.2.2) bt139.1 bt139.2.1 bt139.2.2.1 bt139.2.2.2.1 bt149.1 bt149.2.1 bt149.2.2.1 bt149.2.2.2.1) else (laws_FnExactMailGet.j0 k a0 bt139.2.2.2.2 true bt139.1 bt139.2.1 bt139.2.2.1 bt139.2.2.2.1 bt149.1 bt149.2.1 bt149.2.2.1 bt149.2.2.2.1)))))
set_option maxHeartbeats 8000000 in
set_option maxRecDepth 100000 in
theorem laws_FnExactMailGet.calls (k:Nat) (a0:ByteArray) (r:Bool) (w:World) (hG:GOK w) (h:laws_FnExactMailGet.f k a0=some r) :
 Calls Tryz.prog 4 #[.string a0] w fun e w'=>e=.returned (.bool r)∧Below w.heap.size w w':=by
 have hu28:=Tryz.underlying28
 have HG:=Aside0.mk hG
 clear hG
 have HB:=Aside0.mk (Below.refl w.heap.size w)
 have H:(if (a0.size:Int) > 1048576 then (some true) else ((spec_MailGet.f k a0).bind fun bt139=>((impl_MailGet.f k a0).bind fun bt149=>((laws_eqMail.f k bt149.1 bt149.2.1 bt149.2.2.1 bt149.2.2.2.1 bt139.1 bt139.2.1 bt139.2.2.1 bt139.2.2.2.1).bind fun t159=>(if t159=true then (laws_FnExactMailGet.j0 k a0 bt139.2.2.2.2 (bt149.2.2.2.2 != bt139.2.2.2.2) bt139.1 bt139.2.1 bt139.2.2.1 bt139.2.2.2.1 bt149.1 bt149.2.1 bt149.2.2.1 bt149.2.2.2.1) else (laws_FnExactMailGet.j0 k a0 bt139.2.2.2.2 true bt139.1 bt139.2.1 bt139.2.2.1 bt139.2.2.2.1 bt149.1 bt149.2.1 bt149.2.2.1 bt149.2.2.2.1))))))=some r:=h
 clear h
 by_cases c2:(a0.size:Int) > 1048576
 ·rw [if_pos c2] at H
  have c2b0:decide (1048576 < (a0.size:Int))=true:=decide_eq_true c2
  have c2b1:decide (1048576 < a0.size)=true:=decide_eq_true (by omega)
  clear c2
  obtain rfl:=Option.some.inj H
  go_enter Tryz.func4,Tryz.ntmps4
  go_wp2
  go_ret
  exact ⟨by first|rfl|(simp [errW_none,errW_some]<;>rfl)|(simp [*,errW_none,errW_some]<;>rfl),by repeat (first|(with_reducible first|exact HB.out|apply below_alloc|apply pw_below_drewN|apply below_drew1)|exact HB.out)⟩
 ·rw [if_neg c2] at H
  have c2b0:decide (1048576 < (a0.size:Int))=false:=decide_eq_false c2
  have c2b1:decide (1048576 < a0.size)=false:=decide_eq_false (by omega)
  clear c2
  replace H:=Option.bind_eq_some_iff.mp H
  obtain ⟨⟨t139,t140,t141,t144,t147⟩,A30,H⟩:=H
  replace H:((impl_MailGet.f k a0).bind fun bt149=>((laws_eqMail.f k bt149.1 bt149.2.1 bt149.2.2.1 bt149.2.2.2.1 t139 t140 t141 t144).bind fun t159=>(if t159=true then (laws_FnExactMailGet.j0 k a0 t147 (bt149.2.2.2.2 != t147) t139 t140 t141 t144 bt149.1 bt149.2.1 bt149.2.2.1 bt149.2.2.2.1) else (laws_FnExactMailGet.j0 k a0 t147 true t139 t140 t141 t144 bt149.1 bt149.2.1 bt149.2.2.1 bt149.2.2.2.1))))=some r:=H
  have A3:=Aside0.mk A30
  clear A30
  replace H:=Option.bind_eq_some_iff.mp H
  obtain ⟨⟨t149,t150,t151,t154,t157⟩,A40,H⟩:=H
  replace H:((laws_eqMail.f k t149 t150 t151 t154 t139 t140 t141 t144).bind fun t159=>(if t159=true then (laws_FnExactMailGet.j0 k a0 t147 (t157 != t147) t139 t140 t141 t144 t149 t150 t151 t154) else (laws_FnExactMailGet.j0 k a0 t147 true t139 t140 t141 t144 t149 t150 t151 t154)))=some r:=H
  have A4:=Aside0.mk A40
  clear A40
  have HC5:=Aside0.mk H
  clear H
  go_enter Tryz.func4,Tryz.ntmps4
  go_upto_region 5 with (first|((with_reducible refine gate_callee (f:=13) rfl ?_);refine goesL_ (some 16) rfl rfl Tryz.func13 (by kernel_rfl) rfl #[.string a0] rfl (by (try simp only [List.map_toArray,List.map_cons,List.map_nil]);first|done|rfl|(simp only [List.length_drop,List.length_take];rfl)) ?_;(with_reducible refine (spec_MailGet.calls k a0 t139 t140 t141 t144 t147 _ A3.out).mono ?_);rintro e w6 ⟨v142,v145,rfl,ho0,ho1,hb⟩;refine ⟨_,rfl,?_⟩;have n0_:=Aside0.mk (Kd.R_lower ho0 (below_size (by repeat (first|(with_reducible first|exact HB.out|apply below_alloc|apply pw_below_drewN|apply below_drew1)|exact HB.out))));have n1_:=Aside0.mk (Kd.R_lower ho1 (below_size (by repeat (first|(with_reducible first|exact HB.out|apply below_alloc|apply pw_below_drewN|apply below_drew1)|exact HB.out))));have n2_:=Aside0.mk (below_step (by repeat (first|(with_reducible first|exact HB.out|apply below_alloc|apply pw_below_drewN|apply below_drew1)|exact HB.out)) hb);clear HB;have HO143:=n0_;have HO146:=n1_;have HB:=n2_;clear n0_ n1_ n2_;(try clear hb);(try clear hb2);(try clear hk);(try clear hi);(try clear ho0);(try clear ho1))|((with_reducible refine gate_dst (N:=3) rfl ?_);refine box_event ?hg (N:=3) ?hd (cs:=#[.string bz0,.string bz0,.slice none 0 0,.slice none 0 0]) (t:=28) ?hr ?_;(case hd=>rfl);(case hg=>rfl);(case hr=>first|(go_simp;done)|(go_simp;rfl));intro gb148 hg w7 hbox hb;have n0_:=Aside0.mk (Kd.R_below (by (with_reducible repeat (first|apply Kd.R_alloc|apply Kd.R_drewN|apply Kd.R_drew));exact HO143.out) hb);have n1_:=Aside0.mk (Kd.R_below (by (with_reducible repeat (first|apply Kd.R_alloc|apply Kd.R_drewN|apply Kd.R_drew));exact HO146.out) hb);have n2_:=Aside0.mk (below_step (by repeat (first|(with_reducible first|exact HB.out|apply below_alloc|apply pw_below_drewN|apply below_drew1)|exact HB.out)) hb);have n3_:=Aside0.mk (hbox);have n4_:=Aside0.mk ((by rw [hg];exact (below_size (by repeat (first|(with_reducible first|exact HB.out|apply below_alloc|apply pw_below_drewN|apply below_drew1)|exact HB.out))):w.heap.size≤gb148));have n5_:=Aside0.mk ((by rw [hg];exact (below_size (by repeat (first|(with_reducible first|exact HB.out|apply below_alloc|apply pw_below_drewN|apply below_drew1)|exact HB.out))):w.heap.size≤gb148));clear HO143;clear HO146;clear HB;have HO143:=n0_;have HO146:=n1_;have HB:=n2_;have BK148:=n3_;have GW148:=n4_;have GE148:=n5_;clear n0_ n1_ n2_ n3_ n4_ n5_;clear hb hbox hg;have hcz8_0:w7.cell? ⟨gb148,0,none⟩=some (.string bz0):=(blk_cell BK148.out 0).trans rfl;have hcz8_1:w7.cell? ⟨gb148,1,none⟩=some (.string bz0):=(blk_cell BK148.out 1).trans rfl;have hcz8_2:w7.cell? ⟨gb148,2,none⟩=some (.slice none 0 0):=(blk_cell BK148.out 2).trans rfl;have hcz8_3:w7.cell? ⟨gb148,3,none⟩=some (.slice none 0 0):=(blk_cell BK148.out 3).trans rfl;have hfz8_0:=blk_frozen BK148.out 0;have hfz8_1:=blk_frozen BK148.out 1;have hfz8_2:=blk_frozen BK148.out 2;have hfz8_3:=blk_frozen BK148.out 3;obtain ⟨Ao9,co9,eo9⟩:=Kd.R_slice HO143.out;subst eo9;obtain ⟨Ao10,co10,eo10⟩:=Kd.R_slice HO146.out;subst eo10)|((with_reducible refine gate_callee (f:=11) rfl ?_);refine goesL_ (some 21) rfl rfl Tryz.func11 (by kernel_rfl) rfl #[.string a0] rfl (by (try simp only [List.map_toArray,List.map_cons,List.map_nil]);first|done|rfl|(simp only [List.length_drop,List.length_take];rfl)) ?_;(with_reducible refine (impl_MailGet.calls k a0 t149 t150 t151 t154 t157 _ ?side1 A4.out).mono ?_);(case side1=>first|(with_reducible exact HG.out)|((with_reducible repeat (first|exact HG.out|apply GOK.drewN|apply GOK.drew));done)|exact GOK.below HG.out (by repeat (first|(with_reducible first|exact HB.out|apply below_alloc|apply pw_below_drewN|apply below_drew1|refine below_set ?_ GE148.out)|exact HB.out)));rintro e w11 ⟨v152,v155,rfl,ho0,ho1,hb⟩;refine ⟨_,rfl,?_⟩;have n0_:=Aside0.mk (Kd.R_elder' (by (with_reducible repeat (first|apply Kd.R_alloc|apply Kd.R_drewN|apply Kd.R_drew));exact (Kd.R_mono (Kd.R_far (p:=⟨gb148,3,none⟩) (Kd.R_far (p:=⟨gb148,2,none⟩) (Kd.R_far (p:=⟨gb148,1,none⟩) (Kd.R_far (p:=⟨gb148,0,none⟩) (Kd.R_types HO143.out BK148.out (by decide)) (fun _ hk=>hk.2) (.string t139)) (fun _ hk=>hk.2) (.string t140)) (fun _ hk=>hk.2) (.slice Ao9 t141.length co9)) (fun _ hk=>hk.2) (.slice Ao10 t144.length co10)) (fun _ h_=>h_.1))) (Kd.R_base ho0) hb);have n1_:=Aside0.mk (Kd.R_elder' (by (with_reducible repeat (first|apply Kd.R_alloc|apply Kd.R_drewN|apply Kd.R_drew));exact (Kd.R_mono (Kd.R_far (p:=⟨gb148,3,none⟩) (Kd.R_far (p:=⟨gb148,2,none⟩) (Kd.R_far (p:=⟨gb148,1,none⟩) (Kd.R_far (p:=⟨gb148,0,none⟩) (Kd.R_types HO146.out BK148.out (by decide)) (fun _ hk=>hk.2) (.string t139)) (fun _ hk=>hk.2) (.string t140)) (fun _ hk=>hk.2) (.slice Ao9 t141.length co9)) (fun _ hk=>hk.2) (.slice Ao10 t144.length co10)) (fun _ h_=>h_.1))) (Kd.R_base ho1) hb);have n2_:=Aside0.mk (Kd.R_lower (Kd.R_new' ho0 (Kd.R_lt (by (with_reducible repeat (first|apply Kd.R_alloc|apply Kd.R_drewN|apply Kd.R_drew));exact (Kd.R_mono (Kd.R_far (p:=⟨gb148,3,none⟩) (Kd.R_far (p:=⟨gb148,2,none⟩) (Kd.R_far (p:=⟨gb148,1,none⟩) (Kd.R_far (p:=⟨gb148,0,none⟩) (Kd.R_types HO143.out BK148.out (by decide)) (fun _ hk=>hk.2) (.string t139)) (fun _ hk=>hk.2) (.string t140)) (fun _ hk=>hk.2) (.slice Ao9 t141.length co9)) (fun _ hk=>hk.2) (.slice Ao10 t144.length co10)) (fun _ h_=>h_.1))))) (below_size (by repeat (first|(with_reducible first|exact HB.out|apply below_alloc|apply pw_below_drewN|apply below_drew1|refine below_set ?_ GE148.out)|exact HB.out))));have n3_:=Aside0.mk (Kd.R_lower (Kd.R_new' ho1 (Kd.R_lt (by (with_reducible repeat (first|apply Kd.R_alloc|apply Kd.R_drewN|apply Kd.R_drew));exact (Kd.R_mono (Kd.R_far (p:=⟨gb148,3,none⟩) (Kd.R_far (p:=⟨gb148,2,none⟩) (Kd.R_far (p:=⟨gb148,1,none⟩) (Kd.R_far (p:=⟨gb148,0,none⟩) (Kd.R_types HO146.out BK148.out (by decide)) (fun _ hk=>hk.2) (.string t139)) (fun _ hk=>hk.2) (.string t140)) (fun _ hk=>hk.2) (.slice Ao9 t141.length co9)) (fun _ hk=>hk.2) (.slice Ao10 t144.length co10)) (fun _ h_=>h_.1))))) (below_size (by repeat (first|(with_reducible first|exact HB.out|apply below_alloc|apply pw_below_drewN|apply below_drew1|refine below_set ?_ GE148.out)|exact HB.out))));have n4_:=Aside0.mk (blk_below (g:=gb148) (o:=.cells #[.string t139,.string t140,.slice Ao9 t141.length co9,.slice Ao10 t144.length co10] 28 (0,0)) (by (with_reducible repeat (first|refine blk_drewN ?_ _|refine blk_drew ?_|refine blk_alloc ?_ _));refine blk_put (cs:=#[.string t139,.string t140,.slice Ao9 t141.length co9,.slice none 0 0]) ?_ 3 _ rfl;(with_reducible repeat (first|refine blk_drewN ?_ _|refine blk_drew ?_|refine blk_alloc ?_ _));refine blk_put (cs:=#[.string t139,.string t140,.slice none 0 0,.slice none 0 0]) ?_ 2 _ rfl;(with_reducible repeat (first|refine blk_drewN ?_ _|refine blk_drew ?_|refine blk_alloc ?_ _));refine blk_put (cs:=#[.string t139,.string bz0,.slice none 0 0,.slice none 0 0]) ?_ 1 _ rfl;(with_reducible repeat (first|refine blk_drewN ?_ _|refine blk_drew ?_|refine blk_alloc ?_ _));refine blk_put (cs:=#[.string bz0,.string bz0,.slice none 0 0,.slice none 0 0]) ?_ 0 _ rfl;(with_reducible repeat (first|refine blk_drewN ?_ _|refine blk_drew ?_|refine blk_alloc ?_ _));exact BK148.out) hb);have n5_:=Aside0.mk (below_step (by repeat (first|(with_reducible first|exact HB.out|apply below_alloc|apply pw_below_drewN|apply below_drew1|refine below_set ?_ GE148.out)|exact HB.out)) hb);clear HO143;clear HO146;clear BK148;clear HB;have HO143:=n0_;have HO146:=n1_;have HO153:=n2_;have HO156:=n3_;have BK148:=n4_;have HB:=n5_;clear n0_ n1_ n2_ n3_ n4_ n5_;(try clear hb);(try clear hb2);(try clear hk);(try clear hi);(try clear ho0);(try clear ho1))|((with_reducible refine gate_dst (N:=5) rfl ?_);refine box_event ?hg (N:=5) ?hd (cs:=#[.string bz0,.string bz0,.slice none 0 0,.slice none 0 0]) (t:=28) ?hr ?_;(case hd=>rfl);(case hg=>rfl);(case hr=>first|(go_simp;done)|(go_simp;rfl));intro gb158 hg w12 hbox hb;have n0_:=Aside0.mk (Kd.R_below (by (with_reducible repeat (first|apply Kd.R_alloc|apply Kd.R_drewN|apply Kd.R_drew));exact HO143.out) hb);have n1_:=Aside0.mk (Kd.R_below (by (with_reducible repeat (first|apply Kd.R_alloc|apply Kd.R_drewN|apply Kd.R_drew));exact HO146.out) hb);have n2_:=Aside0.mk (Kd.R_below (by (with_reducible repeat (first|apply Kd.R_alloc|apply Kd.R_drewN|apply Kd.R_drew));exact HO153.out) hb);have n3_:=Aside0.mk (Kd.R_below (by (with_reducible repeat (first|apply Kd.R_alloc|apply Kd.R_drewN|apply Kd.R_drew));exact HO156.out) hb);have n4_:=Aside0.mk (blk_below (g:=gb148) (o:=.cells #[.string t139,.string t140,.slice Ao9 t141.length co9,.slice Ao10 t144.length co10] 28 (0,0)) (by (with_reducible repeat (first|refine blk_drewN ?_ _|refine blk_drew ?_|refine blk_alloc ?_ _));exact BK148.out) hb);have n5_:=Aside0.mk (below_step (by repeat (first|(with_reducible first|exact HB.out|apply below_alloc|apply pw_below_drewN|apply below_drew1|refine below_set ?_ GE148.out)|exact HB.out)) hb);have n6_:=Aside0.mk (hbox);have n7_:=Aside0.mk ((by rw [hg];exact (below_size (by repeat (first|(with_reducible first|exact HB.out|apply below_alloc|apply pw_below_drewN|apply below_drew1|refine below_set ?_ GE148.out)|exact HB.out))):w.heap.size≤gb158));have n8_:=Aside0.mk ((by rw [hg];exact (below_size (by repeat (first|(with_reducible first|exact HB.out|apply below_alloc|apply pw_below_drewN|apply below_drew1|refine below_set ?_ GE148.out)|exact HB.out))):w.heap.size≤gb158));have n9_:=Aside0.mk ((by rw [hg];exact Nat.ne_of_lt (blk_lt (g:=gb148) (o:=.cells #[.string t139,.string t140,.slice Ao9 t141.length co9,.slice Ao10 t144.length co10] 28 (0,0)) (by (with_reducible repeat (first|refine blk_drewN ?_ _|refine blk_drew ?_|refine blk_alloc ?_ _));exact BK148.out)):gb148≠gb158));have n10_:=Aside0.mk ((by rw [hg];exact Nat.ne_of_gt (blk_lt (g:=gb148) (o:=.cells #[.string t139,.string t140,.slice Ao9 t141.length co9,.slice Ao10 t144.length co10] 28 (0,0)) (by (with_reducible repeat (first|refine blk_drewN ?_ _|refine blk_drew ?_|refine blk_alloc ?_ _));exact BK148.out)):gb158≠gb148));clear HO143;clear HO146;clear HO153;clear HO156;clear BK148;clear HB;have HO143:=n0_;have HO146:=n1_;have HO153:=n2_;have HO156:=n3_;have BK148:=n4_;have HB:=n5_;have BK158:=n6_;have GW158:=n7_;have GE158:=n8_;have NB148_158:=n9_;have NB158_148:=n10_;clear n0_ n1_ n2_ n3_ n4_ n5_ n6_ n7_ n8_ n9_ n10_;clear hb hbox hg;have hnb13:=NB158_148.out;have hnc13:=NB148_158.out;have hcz14_0:w12.cell? ⟨gb158,0,none⟩=some (.string bz0):=(blk_cell BK158.out 0).trans rfl;have hcz14_1:w12.cell? ⟨gb158,1,none⟩=some (.string bz0):=(blk_cell BK158.out 1).trans rfl;have hcz14_2:w12.cell? ⟨gb158,2,none⟩=some (.slice none 0 0):=(blk_cell BK158.out 2).trans rfl;have hcz14_3:w12.cell? ⟨gb158,3,none⟩=some (.slice none 0 0):=(blk_cell BK158.out 3).trans rfl;have hfz14_0:=blk_frozen BK158.out 0;have hfz14_1:=blk_frozen BK158.out 1;have hfz14_2:=blk_frozen BK158.out 2;have hfz14_3:=blk_frozen BK158.out 3;obtain ⟨Ao15,co15,eo15⟩:=Kd.R_slice HO153.out;subst eo15;obtain ⟨Ao16,co16,eo16⟩:=Kd.R_slice HO156.out;subst eo16))
  (try simp only [Act.put,List.setIfInBounds_toArray,List.set_cons_zero,List.set_cons_succ])
  go_cut [32] (fun v32 wc=>∃ (kq:Nat) (x32_4:Bool),v32=.bool x32_4∧Aside0 (laws_FnExactMailGet.j0 kq a0 t147 x32_4 t139 t140 t141 t144 t149 t150 t151 t154=some r)∧Aside0 (kq≤k)∧Aside0 (Kd.R k24 24 wc w.heap.size (fun k_=>some k_≠((.slice Ao15 t151.length co15):Value).ownBlock) (.slice Ao9 t141.length co9) t141)∧Aside0 (Kd.R Kd.string 9 wc w.heap.size (fun k_=>some k_≠((.slice Ao16 t154.length co16):Value).ownBlock) (.slice Ao10 t144.length co10) t144)∧Aside0 (Kd.R k24 24 wc w.heap.size (fun k_=>some k_≠((.slice Ao9 t141.length co9):Value).ownBlock) (.slice Ao15 t151.length co15) t151)∧Aside0 (Kd.R Kd.string 9 wc w.heap.size (fun k_=>some k_≠((.slice Ao10 t144.length co10):Value).ownBlock) (.slice Ao16 t154.length co16) t154)∧Aside0 (wc.heap[gb148]?=some (.cells #[.string t139,.string t140,(.slice Ao9 t141.length co9),(.slice Ao10 t144.length co10)] 28 (0,0)))∧Aside0 (wc.heap[gb158]?=some (.cells #[.string t149,.string t150,(.slice Ao15 t151.length co15),(.slice Ao16 t154.length co16)] 28 (0,0)))∧Aside0 (Below w.heap.size w wc))
  case first =>
   have H:=HC5.out
   clear HC5
   replace H:=Option.bind_eq_some_iff.mp H
   obtain ⟨t159,A170,H⟩:=H
   replace H:(if t159=true then (laws_FnExactMailGet.j0 k a0 t147 (t157 != t147) t139 t140 t141 t144 t149 t150 t151 t154) else (laws_FnExactMailGet.j0 k a0 t147 true t139 t140 t141 t144 t149 t150 t151 t154))=some r:=H
   have A17:=Aside0.mk A170
   clear A170
   by_cases c18:t159=true
   ·subst c18
    have H1:(laws_FnExactMailGet.j0 k a0 t147 (t157 != t147) t139 t140 t141 t144 t149 t150 t151 t154)=some r:=by rw [if_pos rfl] at H;exact H
    clear H
    have H:=H1
    clear H1
    have H':=Aside0.mk H
    clear H
    have hnb19:=NB158_148.out
    have hnc19:=NB148_158.out
    have hcz20_0:w12.cell? ⟨gb158,0,none⟩=some (.string bz0):=(blk_cell BK158.out 0).trans rfl
    have hcz20_1:w12.cell? ⟨gb158,1,none⟩=some (.string bz0):=(blk_cell BK158.out 1).trans rfl
    have hcz20_2:w12.cell? ⟨gb158,2,none⟩=some (.slice none 0 0):=(blk_cell BK158.out 2).trans rfl
    have hcz20_3:w12.cell? ⟨gb158,3,none⟩=some (.slice none 0 0):=(blk_cell BK158.out 3).trans rfl
    have hfz20_0:=blk_frozen BK158.out 0
    have hfz20_1:=blk_frozen BK158.out 1
    have hfz20_2:=blk_frozen BK158.out 2
    have hfz20_3:=blk_frozen BK158.out 3
    have hcz21_0:w12.cell? ⟨gb148,0,none⟩=some (.string t139):=(blk_cell BK148.out 0).trans rfl
    have hcz21_1:w12.cell? ⟨gb148,1,none⟩=some (.string t140):=(blk_cell BK148.out 1).trans rfl
    have hcz21_2:w12.cell? ⟨gb148,2,none⟩=some (.slice Ao9 t141.length co9):=(blk_cell BK148.out 2).trans rfl
    have hcz21_3:w12.cell? ⟨gb148,3,none⟩=some (.slice Ao10 t144.length co10):=(blk_cell BK148.out 3).trans rfl
    have hfz21_0:=blk_frozen BK148.out 0
    have hfz21_1:=blk_frozen BK148.out 1
    have hfz21_2:=blk_frozen BK148.out 2
    have hfz21_3:=blk_frozen BK148.out 3
    go_wp2_with (first|((with_reducible refine gate_callee (f:=14) rfl ?_);refine goesL_ (some 26) rfl rfl Tryz.func14 (by kernel_rfl) rfl #[.agg #[.string t149,.string t150,.slice Ao15 t151.length co15,.slice Ao16 t154.length co16],.agg #[.string t139,.string t140,.slice Ao9 t141.length co9,.slice Ao10 t144.length co10]] rfl (by (try simp only [List.map_toArray,List.map_cons,List.map_nil]);first|done|rfl|(simp only [List.length_drop,List.length_take];rfl)) ?_;(with_reducible refine (laws_eqMail.calls k t149 t150 _ _ t151 _ _ t154 t139 t140 _ _ t141 _ _ t144 true _ ?side1 ?side2 ?side3 ?side4 ?side5 ?side6 ?side7 ?side8 A17.out).mono ?_);(case side1=>refine (Kd.R_reads' (e:=24) (base:=w.heap.size) (ok:=fun k_=>(True∧some k_≠(.slice Ao9 t141.length co9:Value).ownBlock)) (n:=t151.length) (c:=co15) ?_).2.2;exact (by (with_reducible repeat (first|apply Kd.R_alloc|apply Kd.R_drewN|apply Kd.R_drew));exact (Kd.R_mono (Kd.R_far (p:=⟨gb158,3,none⟩) (Kd.R_far (p:=⟨gb158,2,none⟩) (Kd.R_far (p:=⟨gb158,1,none⟩) (Kd.R_far (p:=⟨gb158,0,none⟩) (Kd.R_types HO153.out BK158.out (by decide)) (fun _ hk=>hk.2) (.string t149)) (fun _ hk=>hk.2) (.string t150)) (fun _ hk=>hk.2) (.slice Ao15 t151.length co15)) (fun _ hk=>hk.2) (.slice Ao16 t154.length co16)) (fun _ h_=>h_.1))));(case side2=>exact (Kd.R_reads' HO153.out).2.1);(case side3=>refine (Kd.R_reads' (e:=9) (base:=w.heap.size) (ok:=fun k_=>(True∧some k_≠(.slice Ao10 t144.length co10:Value).ownBlock)) (n:=t154.length) (c:=co16) ?_).2.2;exact (by (with_reducible repeat (first|apply Kd.R_alloc|apply Kd.R_drewN|apply Kd.R_drew));exact (Kd.R_mono (Kd.R_far (p:=⟨gb158,3,none⟩) (Kd.R_far (p:=⟨gb158,2,none⟩) (Kd.R_far (p:=⟨gb158,1,none⟩) (Kd.R_far (p:=⟨gb158,0,none⟩) (Kd.R_types HO156.out BK158.out (by decide)) (fun _ hk=>hk.2) (.string t149)) (fun _ hk=>hk.2) (.string t150)) (fun _ hk=>hk.2) (.slice Ao15 t151.length co15)) (fun _ hk=>hk.2) (.slice Ao16 t154.length co16)) (fun _ h_=>h_.1))));(case side4=>exact (Kd.R_reads' HO156.out).2.1);(case side5=>refine (Kd.R_reads' (e:=24) (base:=w.heap.size) (ok:=fun k_=>(True∧some k_≠(.slice Ao15 t151.length co15:Value).ownBlock)) (n:=t141.length) (c:=co9) ?_).2.2;exact (by (with_reducible repeat (first|apply Kd.R_alloc|apply Kd.R_drewN|apply Kd.R_drew));exact (Kd.R_mono (Kd.R_far (p:=⟨gb158,3,none⟩) (Kd.R_far (p:=⟨gb158,2,none⟩) (Kd.R_far (p:=⟨gb158,1,none⟩) (Kd.R_far (p:=⟨gb158,0,none⟩) (Kd.R_types HO143.out BK158.out (by decide)) (fun _ hk=>hk.2) (.string t149)) (fun _ hk=>hk.2) (.string t150)) (fun _ hk=>hk.2) (.slice Ao15 t151.length co15)) (fun _ hk=>hk.2) (.slice Ao16 t154.length co16)) (fun _ h_=>h_.1))));(case side6=>exact (Kd.R_reads' HO143.out).2.1);(case side7=>refine (Kd.R_reads' (e:=9) (base:=w.heap.size) (ok:=fun k_=>(True∧some k_≠(.slice Ao16 t154.length co16:Value).ownBlock)) (n:=t144.length) (c:=co10) ?_).2.2;exact (by (with_reducible repeat (first|apply Kd.R_alloc|apply Kd.R_drewN|apply Kd.R_drew));exact (Kd.R_mono (Kd.R_far (p:=⟨gb158,3,none⟩) (Kd.R_far (p:=⟨gb158,2,none⟩) (Kd.R_far (p:=⟨gb158,1,none⟩) (Kd.R_far (p:=⟨gb158,0,none⟩) (Kd.R_types HO146.out BK158.out (by decide)) (fun _ hk=>hk.2) (.string t149)) (fun _ hk=>hk.2) (.string t150)) (fun _ hk=>hk.2) (.slice Ao15 t151.length co15)) (fun _ hk=>hk.2) (.slice Ao16 t154.length co16)) (fun _ h_=>h_.1))));(case side8=>exact (Kd.R_reads' HO146.out).2.1);rintro e w22 ⟨rfl,hb⟩;refine ⟨_,rfl,?_⟩;have n0_:=Aside0.mk (Kd.R_below (by (with_reducible repeat (first|apply Kd.R_alloc|apply Kd.R_drewN|apply Kd.R_drew));exact (Kd.R_mono (Kd.R_far (p:=⟨gb158,3,none⟩) (Kd.R_far (p:=⟨gb158,2,none⟩) (Kd.R_far (p:=⟨gb158,1,none⟩) (Kd.R_far (p:=⟨gb158,0,none⟩) (Kd.R_types HO143.out BK158.out (by decide)) (fun _ hk=>hk.2) (.string t149)) (fun _ hk=>hk.2) (.string t150)) (fun _ hk=>hk.2) (.slice Ao15 t151.length co15)) (fun _ hk=>hk.2) (.slice Ao16 t154.length co16)) (fun _ h_=>h_.1))) hb);have n1_:=Aside0.mk (Kd.R_below (by (with_reducible repeat (first|apply Kd.R_alloc|apply Kd.R_drewN|apply Kd.R_drew));exact (Kd.R_mono (Kd.R_far (p:=⟨gb158,3,none⟩) (Kd.R_far (p:=⟨gb158,2,none⟩) (Kd.R_far (p:=⟨gb158,1,none⟩) (Kd.R_far (p:=⟨gb158,0,none⟩) (Kd.R_types HO146.out BK158.out (by decide)) (fun _ hk=>hk.2) (.string t149)) (fun _ hk=>hk.2) (.string t150)) (fun _ hk=>hk.2) (.slice Ao15 t151.length co15)) (fun _ hk=>hk.2) (.slice Ao16 t154.length co16)) (fun _ h_=>h_.1))) hb);have n2_:=Aside0.mk (Kd.R_below (by (with_reducible repeat (first|apply Kd.R_alloc|apply Kd.R_drewN|apply Kd.R_drew));exact (Kd.R_mono (Kd.R_far (p:=⟨gb158,3,none⟩) (Kd.R_far (p:=⟨gb158,2,none⟩) (Kd.R_far (p:=⟨gb158,1,none⟩) (Kd.R_far (p:=⟨gb158,0,none⟩) (Kd.R_types HO153.out BK158.out (by decide)) (fun _ hk=>hk.2) (.string t149)) (fun _ hk=>hk.2) (.string t150)) (fun _ hk=>hk.2) (.slice Ao15 t151.length co15)) (fun _ hk=>hk.2) (.slice Ao16 t154.length co16)) (fun _ h_=>h_.1))) hb);have n3_:=Aside0.mk (Kd.R_below (by (with_reducible repeat (first|apply Kd.R_alloc|apply Kd.R_drewN|apply Kd.R_drew));exact (Kd.R_mono (Kd.R_far (p:=⟨gb158,3,none⟩) (Kd.R_far (p:=⟨gb158,2,none⟩) (Kd.R_far (p:=⟨gb158,1,none⟩) (Kd.R_far (p:=⟨gb158,0,none⟩) (Kd.R_types HO156.out BK158.out (by decide)) (fun _ hk=>hk.2) (.string t149)) (fun _ hk=>hk.2) (.string t150)) (fun _ hk=>hk.2) (.slice Ao15 t151.length co15)) (fun _ hk=>hk.2) (.slice Ao16 t154.length co16)) (fun _ h_=>h_.1))) hb);have n4_:=Aside0.mk (blk_below (g:=gb148) (o:=.cells #[.string t139,.string t140,.slice Ao9 t141.length co9,.slice Ao10 t144.length co10] 28 (0,0)) (by (with_reducible repeat (first|refine blk_drewN ?_ _|refine blk_drew ?_|refine blk_alloc ?_ _));refine blk_far ?_ NB148_158.out _;(with_reducible repeat (first|refine blk_drewN ?_ _|refine blk_drew ?_|refine blk_alloc ?_ _));refine blk_far ?_ NB148_158.out _;(with_reducible repeat (first|refine blk_drewN ?_ _|refine blk_drew ?_|refine blk_alloc ?_ _));refine blk_far ?_ NB148_158.out _;(with_reducible repeat (first|refine blk_drewN ?_ _|refine blk_drew ?_|refine blk_alloc ?_ _));refine blk_far ?_ NB148_158.out _;(with_reducible repeat (first|refine blk_drewN ?_ _|refine blk_drew ?_|refine blk_alloc ?_ _));exact BK148.out) hb);have n5_:=Aside0.mk (blk_below (g:=gb158) (o:=.cells #[.string t149,.string t150,.slice Ao15 t151.length co15,.slice Ao16 t154.length co16] 28 (0,0)) (by (with_reducible repeat (first|refine blk_drewN ?_ _|refine blk_drew ?_|refine blk_alloc ?_ _));refine blk_put (cs:=#[.string t149,.string t150,.slice Ao15 t151.length co15,.slice none 0 0]) ?_ 3 _ rfl;(with_reducible repeat (first|refine blk_drewN ?_ _|refine blk_drew ?_|refine blk_alloc ?_ _));refine blk_put (cs:=#[.string t149,.string t150,.slice none 0 0,.slice none 0 0]) ?_ 2 _ rfl;(with_reducible repeat (first|refine blk_drewN ?_ _|refine blk_drew ?_|refine blk_alloc ?_ _));refine blk_put (cs:=#[.string t149,.string bz0,.slice none 0 0,.slice none 0 0]) ?_ 1 _ rfl;(with_reducible repeat (first|refine blk_drewN ?_ _|refine blk_drew ?_|refine blk_alloc ?_ _));refine blk_put (cs:=#[.string bz0,.string bz0,.slice none 0 0,.slice none 0 0]) ?_ 0 _ rfl;(with_reducible repeat (first|refine blk_drewN ?_ _|refine blk_drew ?_|refine blk_alloc ?_ _));exact BK158.out) hb);have n6_:=Aside0.mk (below_step (by repeat (first|(with_reducible first|exact HB.out|apply below_alloc|apply pw_below_drewN|apply below_drew1|refine below_set ?_ GE148.out|refine below_set ?_ GE158.out)|exact HB.out)) hb);clear HO143;clear HO146;clear HO153;clear HO156;clear BK148;clear BK158;clear HB;have HO143:=n0_;have HO146:=n1_;have HO153:=n2_;have HO156:=n3_;have BK148:=n4_;have BK158:=n5_;have HB:=n6_;clear n0_ n1_ n2_ n3_ n4_ n5_ n6_;(try clear hb);(try clear hb2);(try clear hk);(try clear hi)))
    go_meet
    case rel=>exact ⟨_,((t157 != t147)),(by first|rfl|(simp;done)|(simp [*];done)),H',⟨by first|omega|exact Nat.le_refl _⟩,⟨by (with_reducible repeat (first|apply Kd.R_alloc|apply Kd.R_drewN|apply Kd.R_drew));exact Kd.R_mono HO143.out (fun _ hk=>hk.2)⟩,⟨by (with_reducible repeat (first|apply Kd.R_alloc|apply Kd.R_drewN|apply Kd.R_drew));exact Kd.R_mono HO146.out (fun _ hk=>hk.2)⟩,⟨by (with_reducible repeat (first|apply Kd.R_alloc|apply Kd.R_drewN|apply Kd.R_drew));exact Kd.R_mono HO153.out (fun _ hk=>hk.2)⟩,⟨by (with_reducible repeat (first|apply Kd.R_alloc|apply Kd.R_drewN|apply Kd.R_drew));exact Kd.R_mono HO156.out (fun _ hk=>hk.2)⟩,⟨by (with_reducible repeat (first|refine blk_drewN ?_ _|refine blk_drew ?_|refine blk_alloc ?_ _));exact BK148.out⟩,⟨by (with_reducible repeat (first|refine blk_drewN ?_ _|refine blk_drew ?_|refine blk_alloc ?_ _));exact BK158.out⟩,⟨by repeat (first|(with_reducible first|exact HB.out|apply below_alloc|apply pw_below_drewN|apply below_drew1|refine below_set ?_ GE148.out|refine below_set ?_ GE158.out)|exact HB.out)⟩⟩
   ·replace c18:=Bool.eq_false_iff.mpr c18
    subst c18
    have H1:(laws_FnExactMailGet.j0 k a0 t147 true t139 t140 t141 t144 t149 t150 t151 t154)=some r:=by rw [if_neg (show ¬ (false=true) by decide)] at H;exact H
    clear H
    have H:=H1
    clear H1
    have H':=Aside0.mk H
    clear H
    have hnb23:=NB158_148.out
    have hnc23:=NB148_158.out
    have hcz24_0:w12.cell? ⟨gb158,0,none⟩=some (.string bz0):=(blk_cell BK158.out 0).trans rfl
    have hcz24_1:w12.cell? ⟨gb158,1,none⟩=some (.string bz0):=(blk_cell BK158.out 1).trans rfl
    have hcz24_2:w12.cell? ⟨gb158,2,none⟩=some (.slice none 0 0):=(blk_cell BK158.out 2).trans rfl
    have hcz24_3:w12.cell? ⟨gb158,3,none⟩=some (.slice none 0 0):=(blk_cell BK158.out 3).trans rfl
    have hfz24_0:=blk_frozen BK158.out 0
    have hfz24_1:=blk_frozen BK158.out 1
    have hfz24_2:=blk_frozen BK158.out 2
    have hfz24_3:=blk_frozen BK158.out 3
    have hcz25_0:w12.cell? ⟨gb148,0,none⟩=some (.string t139):=(blk_cell BK148.out 0).trans rfl
    have hcz25_1:w12.cell? ⟨gb148,1,none⟩=some (.string t140):=(blk_cell BK148.out 1).trans rfl
    have hcz25_2:w12.cell? ⟨gb148,2,none⟩=some (.slice Ao9 t141.length co9):=(blk_cell BK148.out 2).trans rfl
    have hcz25_3:w12.cell? ⟨gb148,3,none⟩=some (.slice Ao10 t144.length co10):=(blk_cell BK148.out 3).trans rfl
    have hfz25_0:=blk_frozen BK148.out 0
    have hfz25_1:=blk_frozen BK148.out 1
    have hfz25_2:=blk_frozen BK148.out 2
    have hfz25_3:=blk_frozen BK148.out 3
    go_wp2_with (first|((with_reducible refine gate_callee (f:=14) rfl ?_);refine goesL_ (some 26) rfl rfl Tryz.func14 (by kernel_rfl) rfl #[.agg #[.string t149,.string t150,.slice Ao15 t151.length co15,.slice Ao16 t154.length co16],.agg #[.string t139,.string t140,.slice Ao9 t141.length co9,.slice Ao10 t144.length co10]] rfl (by (try simp only [List.map_toArray,List.map_cons,List.map_nil]);first|done|rfl|(simp only [List.length_drop,List.length_take];rfl)) ?_;(with_reducible refine (laws_eqMail.calls k t149 t150 _ _ t151 _ _ t154 t139 t140 _ _ t141 _ _ t144 false _ ?side1 ?side2 ?side3 ?side4 ?side5 ?side6 ?side7 ?side8 A17.out).mono ?_);(case side1=>refine (Kd.R_reads' (e:=24) (base:=w.heap.size) (ok:=fun k_=>(True∧some k_≠(.slice Ao9 t141.length co9:Value).ownBlock)) (n:=t151.length) (c:=co15) ?_).2.2;exact (by (with_reducible repeat (first|apply Kd.R_alloc|apply Kd.R_drewN|apply Kd.R_drew));exact (Kd.R_mono (Kd.R_far (p:=⟨gb158,3,none⟩) (Kd.R_far (p:=⟨gb158,2,none⟩) (Kd.R_far (p:=⟨gb158,1,none⟩) (Kd.R_far (p:=⟨gb158,0,none⟩) (Kd.R_types HO153.out BK158.out (by decide)) (fun _ hk=>hk.2) (.string t149)) (fun _ hk=>hk.2) (.string t150)) (fun _ hk=>hk.2) (.slice Ao15 t151.length co15)) (fun _ hk=>hk.2) (.slice Ao16 t154.length co16)) (fun _ h_=>h_.1))));(case side2=>exact (Kd.R_reads' HO153.out).2.1);(case side3=>refine (Kd.R_reads' (e:=9) (base:=w.heap.size) (ok:=fun k_=>(True∧some k_≠(.slice Ao10 t144.length co10:Value).ownBlock)) (n:=t154.length) (c:=co16) ?_).2.2;exact (by (with_reducible repeat (first|apply Kd.R_alloc|apply Kd.R_drewN|apply Kd.R_drew));exact (Kd.R_mono (Kd.R_far (p:=⟨gb158,3,none⟩) (Kd.R_far (p:=⟨gb158,2,none⟩) (Kd.R_far (p:=⟨gb158,1,none⟩) (Kd.R_far (p:=⟨gb158,0,none⟩) (Kd.R_types HO156.out BK158.out (by decide)) (fun _ hk=>hk.2) (.string t149)) (fun _ hk=>hk.2) (.string t150)) (fun _ hk=>hk.2) (.slice Ao15 t151.length co15)) (fun _ hk=>hk.2) (.slice Ao16 t154.length co16)) (fun _ h_=>h_.1))));(case side4=>exact (Kd.R_reads' HO156.out).2.1);(case side5=>refine (Kd.R_reads' (e:=24) (base:=w.heap.size) (ok:=fun k_=>(True∧some k_≠(.slice Ao15 t151.length co15:Value).ownBlock)) (n:=t141.length) (c:=co9) ?_).2.2;exact (by (with_reducible repeat (first|apply Kd.R_alloc|apply Kd.R_drewN|apply Kd.R_drew));exact (Kd.R_mono (Kd.R_far (p:=⟨gb158,3,none⟩) (Kd.R_far (p:=⟨gb158,2,none⟩) (Kd.R_far (p:=⟨gb158,1,none⟩) (Kd.R_far (p:=⟨gb158,0,none⟩) (Kd.R_types HO143.out BK158.out (by decide)) (fun _ hk=>hk.2) (.string t149)) (fun _ hk=>hk.2) (.string t150)) (fun _ hk=>hk.2) (.slice Ao15 t151.length co15)) (fun _ hk=>hk.2) (.slice Ao16 t154.length co16)) (fun _ h_=>h_.1))));(case side6=>exact (Kd.R_reads' HO143.out).2.1);(case side7=>refine (Kd.R_reads' (e:=9) (base:=w.heap.size) (ok:=fun k_=>(True∧some k_≠(.slice Ao16 t154.length co16:Value).ownBlock)) (n:=t144.length) (c:=co10) ?_).2.2;exact (by (with_reducible repeat (first|apply Kd.R_alloc|apply Kd.R_drewN|apply Kd.R_drew));exact (Kd.R_mono (Kd.R_far (p:=⟨gb158,3,none⟩) (Kd.R_far (p:=⟨gb158,2,none⟩) (Kd.R_far (p:=⟨gb158,1,none⟩) (Kd.R_far (p:=⟨gb158,0,none⟩) (Kd.R_types HO146.out BK158.out (by decide)) (fun _ hk=>hk.2) (.string t149)) (fun _ hk=>hk.2) (.string t150)) (fun _ hk=>hk.2) (.slice Ao15 t151.length co15)) (fun _ hk=>hk.2) (.slice Ao16 t154.length co16)) (fun _ h_=>h_.1))));(case side8=>exact (Kd.R_reads' HO146.out).2.1);rintro e w26 ⟨rfl,hb⟩;refine ⟨_,rfl,?_⟩;have n0_:=Aside0.mk (Kd.R_below (by (with_reducible repeat (first|apply Kd.R_alloc|apply Kd.R_drewN|apply Kd.R_drew));exact (Kd.R_mono (Kd.R_far (p:=⟨gb158,3,none⟩) (Kd.R_far (p:=⟨gb158,2,none⟩) (Kd.R_far (p:=⟨gb158,1,none⟩) (Kd.R_far (p:=⟨gb158,0,none⟩) (Kd.R_types HO143.out BK158.out (by decide)) (fun _ hk=>hk.2) (.string t149)) (fun _ hk=>hk.2) (.string t150)) (fun _ hk=>hk.2) (.slice Ao15 t151.length co15)) (fun _ hk=>hk.2) (.slice Ao16 t154.length co16)) (fun _ h_=>h_.1))) hb);have n1_:=Aside0.mk (Kd.R_below (by (with_reducible repeat (first|apply Kd.R_alloc|apply Kd.R_drewN|apply Kd.R_drew));exact (Kd.R_mono (Kd.R_far (p:=⟨gb158,3,none⟩) (Kd.R_far (p:=⟨gb158,2,none⟩) (Kd.R_far (p:=⟨gb158,1,none⟩) (Kd.R_far (p:=⟨gb158,0,none⟩) (Kd.R_types HO146.out BK158.out (by decide)) (fun _ hk=>hk.2) (.string t149)) (fun _ hk=>hk.2) (.string t150)) (fun _ hk=>hk.2) (.slice Ao15 t151.length co15)) (fun _ hk=>hk.2) (.slice Ao16 t154.length co16)) (fun _ h_=>h_.1))) hb);have n2_:=Aside0.mk (Kd.R_below (by (with_reducible repeat (first|apply Kd.R_alloc|apply Kd.R_drewN|apply Kd.R_drew));exact (Kd.R_mono (Kd.R_far (p:=⟨gb158,3,none⟩) (Kd.R_far (p:=⟨gb158,2,none⟩) (Kd.R_far (p:=⟨gb158,1,none⟩) (Kd.R_far (p:=⟨gb158,0,none⟩) (Kd.R_types HO153.out BK158.out (by decide)) (fun _ hk=>hk.2) (.string t149)) (fun _ hk=>hk.2) (.string t150)) (fun _ hk=>hk.2) (.slice Ao15 t151.length co15)) (fun _ hk=>hk.2) (.slice Ao16 t154.length co16)) (fun _ h_=>h_.1))) hb);have n3_:=Aside0.mk (Kd.R_below (by (with_reducible repeat (first|apply Kd.R_alloc|apply Kd.R_drewN|apply Kd.R_drew));exact (Kd.R_mono (Kd.R_far (p:=⟨gb158,3,none⟩) (Kd.R_far (p:=⟨gb158,2,none⟩) (Kd.R_far (p:=⟨gb158,1,none⟩) (Kd.R_far (p:=⟨gb158,0,none⟩) (Kd.R_types HO156.out BK158.out (by decide)) (fun _ hk=>hk.2) (.string t149)) (fun _ hk=>hk.2) (.string t150)) (fun _ hk=>hk.2) (.slice Ao15 t151.length co15)) (fun _ hk=>hk.2) (.slice Ao16 t154.length co16)) (fun _ h_=>h_.1))) hb);have n4_:=Aside0.mk (blk_below (g:=gb148) (o:=.cells #[.string t139,.string t140,.slice Ao9 t141.length co9,.slice Ao10 t144.length co10] 28 (0,0)) (by (with_reducible repeat (first|refine blk_drewN ?_ _|refine blk_drew ?_|refine blk_alloc ?_ _));refine blk_far ?_ NB148_158.out _;(with_reducible repeat (first|refine blk_drewN ?_ _|refine blk_drew ?_|refine blk_alloc ?_ _));refine blk_far ?_ NB148_158.out _;(with_reducible repeat (first|refine blk_drewN ?_ _|refine blk_drew ?_|refine blk_alloc ?_ _));refine blk_far ?_ NB148_158.out _;(with_reducible repeat (first|refine blk_drewN ?_ _|refine blk_drew ?_|refine blk_alloc ?_ _));refine blk_far ?_ NB148_158.out _;(with_reducible repeat (first|refine blk_drewN ?_ _|refine blk_drew ?_|refine blk_alloc ?_ _));exact BK148.out) hb);have n5_:=Aside0.mk (blk_below (g:=gb158) (o:=.cells #[.string t149,.string t150,.slice Ao15 t151.length co15,.slice Ao16 t154.length co16] 28 (0,0)) (by (with_reducible repeat (first|refine blk_drewN ?_ _|refine blk_drew ?_|refine blk_alloc ?_ _));refine blk_put (cs:=#[.string t149,.string t150,.slice Ao15 t151.length co15,.slice none 0 0]) ?_ 3 _ rfl;(with_reducible repeat (first|refine blk_drewN ?_ _|refine blk_drew ?_|refine blk_alloc ?_ _));refine blk_put (cs:=#[.string t149,.string t150,.slice none 0 0,.slice none 0 0]) ?_ 2 _ rfl;(with_reducible repeat (first|refine blk_drewN ?_ _|refine blk_drew ?_|refine blk_alloc ?_ _));refine blk_put (cs:=#[.string t149,.string bz0,.slice none 0 0,.slice none 0 0]) ?_ 1 _ rfl;(with_reducible repeat (first|refine blk_drewN ?_ _|refine blk_drew ?_|refine blk_alloc ?_ _));refine blk_put (cs:=#[.string bz0,.string bz0,.slice none 0 0,.slice none 0 0]) ?_ 0 _ rfl;(with_reducible repeat (first|refine blk_drewN ?_ _|refine blk_drew ?_|refine blk_alloc ?_ _));exact BK158.out) hb);have n6_:=Aside0.mk (below_step (by repeat (first|(with_reducible first|exact HB.out|apply below_alloc|apply pw_below_drewN|apply below_drew1|refine below_set ?_ GE148.out|refine below_set ?_ GE158.out)|exact HB.out)) hb);clear HO143;clear HO146;clear HO153;clear HO156;clear BK148;clear BK158;clear HB;have HO143:=n0_;have HO146:=n1_;have HO153:=n2_;have HO156:=n3_;have BK148:=n4_;have BK158:=n5_;have HB:=n6_;clear n0_ n1_ n2_ n3_ n4_ n5_ n6_;(try clear hb);(try clear hb2);(try clear hk);(try clear hi)))
    go_meet
    case rel=>exact ⟨_,(true),(by first|rfl|(simp;done)|(simp [*];done)),H',⟨by first|omega|exact Nat.le_refl _⟩,⟨by (with_reducible repeat (first|apply Kd.R_alloc|apply Kd.R_drewN|apply Kd.R_drew));exact Kd.R_mono HO143.out (fun _ hk=>hk.2)⟩,⟨by (with_reducible repeat (first|apply Kd.R_alloc|apply Kd.R_drewN|apply Kd.R_drew));exact Kd.R_mono HO146.out (fun _ hk=>hk.2)⟩,⟨by (with_reducible repeat (first|apply Kd.R_alloc|apply Kd.R_drewN|apply Kd.R_drew));exact Kd.R_mono HO153.out (fun _ hk=>hk.2)⟩,⟨by (with_reducible repeat (first|apply Kd.R_alloc|apply Kd.R_drewN|apply Kd.R_drew));exact Kd.R_mono HO156.out (fun _ hk=>hk.2)⟩,⟨by (with_reducible repeat (first|refine blk_drewN ?_ _|refine blk_drew ?_|refine blk_alloc ?_ _));exact BK148.out⟩,⟨by (with_reducible repeat (first|refine blk_drewN ?_ _|refine blk_drew ?_|refine blk_alloc ?_ _));exact BK158.out⟩,⟨by repeat (first|(with_reducible first|exact HB.out|apply below_alloc|apply pw_below_drewN|apply below_drew1|refine below_set ?_ GE148.out|refine below_set ?_ GE158.out)|exact HB.out)⟩⟩
  case rest =>
   clear HC5
   try clear c1
   try clear c2
   try clear c2b0
   try clear c2b1
   try clear p2
   try clear c4
   try clear c11
   try clear c13
   try clear c14
   try clear c18
   try clear c19
   try clear c23
   try clear hcz14_0
   try clear hcz14_1
   try clear hcz14_2
   try clear hcz14_3
   try clear hcz20_0
   try clear hcz20_1
   try clear hcz20_2
   try clear hcz20_3
   try clear hcz21_0
   try clear hcz21_1
   try clear hcz21_2
   try clear hcz21_3
   try clear hcz24_0
   try clear hcz24_1
   try clear hcz24_2
   try clear hcz24_3
   try clear hcz25_0
   try clear hcz25_1
   try clear hcz25_2
   try clear hcz25_3
   try clear hcz8_0
   try clear hcz8_1
   try clear hcz8_2
   try clear hcz8_3
   try clear hfz14_0
   try clear hfz14_1
   try clear hfz14_2
   try clear hfz14_3
   try clear hfz20_0
   try clear hfz20_1
   try clear hfz20_2
   try clear hfz20_3
   try clear hfz21_0
   try clear hfz21_1
   try clear hfz21_2
   try clear hfz21_3
   try clear hfz24_0
   try clear hfz24_1
   try clear hfz24_2
   try clear hfz24_3
   try clear hfz25_0
   try clear hfz25_1
   try clear hfz25_2
   try clear hfz25_3
   try clear hfz8_0
   try clear hfz8_1
   try clear hfz8_2
   try clear hfz8_3
   obtain ⟨kq,x32_4,rfl,HA,HJ4,HO_149002,HO_149003,HO_159002,HO_159003,BK148,BK158,HB⟩:=hcut
   cases kq with
   | zero=>exact absurd HA.out (by simp [laws_FnExactMailGet.j0])
   | succ kj4 =>
    have H:=HA.out
    clear HA
    simp only [laws_FnExactMailGet.j0] at H
    by_cases c27:x32_4=true
    ·subst c27
     have H1:(some false)=some r:=by rw [if_pos rfl] at H;exact H
     clear H
     have H:=H1
     clear H1
     obtain rfl:=Option.some.inj H
     go_wp2
     go_ret
     exact ⟨by first|rfl|(simp [errW_none,errW_some]<;>rfl)|(simp [*,errW_none,errW_some]<;>rfl),by repeat (first|(with_reducible first|exact HB.out|apply below_alloc|apply pw_below_drewN|apply below_drew1|refine below_set ?_ GE148.out|refine below_set ?_ GE158.out)|exact HB.out)⟩
    ·replace c27:=Bool.eq_false_iff.mpr c27
     subst c27
     have H1:((laws_markMail.f kj4 t149 t150 t151 t154 1).bind fun bt160=>((laws_heldMail.f kj4 t149 t150 bt160.2.1 bt160.2.2 1).bind fun t163=>(if t163 < 0 then (some false) else (if t163=bt160.1 then ((impl_MailGet.f kj4 a0).bind fun bt164=>((laws_eqMail.f kj4 bt164.1 bt164.2.1 bt164.2.2.1 bt164.2.2.2.1 t139 t140 t141 t144).bind fun t174=>(if t174=true then (laws_FnExactMailGet.j1 kj4 bt160.1 (bt164.2.2.2.2 != t147) t149 t150 bt160.2.1 bt160.2.2) else (laws_FnExactMailGet.j1 kj4 bt160.1 true t149 t150 bt160.2.1 bt160.2.2)))) else (some false)))))=some r:=by rw [if_neg (show ¬ (false=true) by decide)] at H;exact H
     clear H
     have H:=H1
     clear H1
     replace H:=Option.bind_eq_some_iff.mp H
     obtain ⟨⟨t160,t161,t162⟩,A280,H⟩:=H
     replace H:((laws_heldMail.f kj4 t149 t150 t161 t162 1).bind fun t163=>(if t163 < 0 then (some false) else (if t163=t160 then ((impl_MailGet.f kj4 a0).bind fun bt164=>((laws_eqMail.f kj4 bt164.1 bt164.2.1 bt164.2.2.1 bt164.2.2.2.1 t139 t140 t141 t144).bind fun t174=>(if t174=true then (laws_FnExactMailGet.j1 kj4 t160 (bt164.2.2.2.2 != t147) t149 t150 t161 t162) else (laws_FnExactMailGet.j1 kj4 t160 true t149 t150 t161 t162)))) else (some false))))=some r:=H
     have A28:=Aside0.mk A280
     clear A280
     replace H:=Option.bind_eq_some_iff.mp H
     obtain ⟨t163,A290,H⟩:=H
     replace H:(if t163 < 0 then (some false) else (if t163=t160 then ((impl_MailGet.f kj4 a0).bind fun bt164=>((laws_eqMail.f kj4 bt164.1 bt164.2.1 bt164.2.2.1 bt164.2.2.2.1 t139 t140 t141 t144).bind fun t174=>(if t174=true then (laws_FnExactMailGet.j1 kj4 t160 (bt164.2.2.2.2 != t147) t149 t150 t161 t162) else (laws_FnExactMailGet.j1 kj4 t160 true t149 t150 t161 t162)))) else (some false)))=some r:=H
     have A29:=Aside0.mk A290
     clear A290
     by_cases c30:t163 < 0
     ·rw [if_pos c30] at H
      have c30b0:decide (t163 < 0)=true:=decide_eq_true c30
      clear c30
      obtain rfl:=Option.some.inj H
      have hnb31:=NB158_148.out
      have hnc31:=NB148_158.out
      have hcz32_0:wc.cell? ⟨gb158,0,none⟩=some (.string t149):=(blk_cell BK158.out 0).trans rfl
      have hcz32_1:wc.cell? ⟨gb158,1,none⟩=some (.string t150):=(blk_cell BK158.out 1).trans rfl
      have hcz32_2:wc.cell? ⟨gb158,2,none⟩=some (.slice Ao15 t151.length co15):=(blk_cell BK158.out 2).trans rfl
      have hcz32_3:wc.cell? ⟨gb158,3,none⟩=some (.slice Ao16 t154.length co16):=(blk_cell BK158.out 3).trans rfl
      have hfz32_0:=blk_frozen BK158.out 0
      have hfz32_1:=blk_frozen BK158.out 1
      have hfz32_2:=blk_frozen BK158.out 2
      have hfz32_3:=blk_frozen BK158.out 3
      go_wp2_with (first|((with_reducible refine gate_callee (f:=15) rfl ?_);refine goesL_ (some 35) rfl rfl Tryz.func15 (by kernel_rfl) rfl #[.agg #[.string t149,.string t150,.slice Ao15 t151.length co15,.slice Ao16 t154.length co16],.int .i64 1] rfl (by (try simp only [List.map_toArray,List.map_cons,List.map_nil]);first|done|rfl|(simp only [List.length_drop,List.length_take];rfl)) ?_;(with_reducible refine (laws_markMail.calls kj4 t149 t150 (fun k_=>some k_=(.slice Ao15 t151.length co15:Value).ownBlock) (.slice Ao15 t151.length co15) t151 (fun k_=>some k_=(.slice Ao16 t154.length co16:Value).ownBlock) (.slice Ao16 t154.length co16) t154 1 t160 t161 t162 w _ ?side1 ?side2 ?side3 A28.out).mono ?_);(case side1=>repeat (first|(with_reducible first|exact HB.out|apply below_alloc|apply pw_below_drewN|apply below_drew1|refine below_set ?_ GE148.out|refine below_set ?_ GE158.out)|exact HB.out));(case side2=>exact Kd.R_tight rfl HO_159002.out);(case side3=>exact Kd.R_tight rfl HO_159003.out);rintro e w33 ⟨rfl,hy0,hy1,hb,hkp⟩;refine ⟨_,rfl,?_⟩;have n0_:=Aside0.mk (Kd.R_mono (ok':=fun k_=>some k_≠(.slice Ao15 t151.length co15:Value).ownBlock) (Kd.R_keptB ((Kd.R_apart' HO_149002.out (Kd.R_typed HO_159003.out) (by decide))) hkp (fun k_ hk_ hs_=>Or.elim hs_ (fun e_=>(hk_.1) e_) (fun e_=>(hk_.2) e_))) (fun k_ hk_=>hk_.1.1));have n1_:=Aside0.mk (Kd.R_mono (ok':=fun k_=>some k_≠(.slice Ao16 t154.length co16:Value).ownBlock) (Kd.R_keptB ((Kd.R_apart' HO_149003.out (Kd.R_typed HO_159002.out) (by decide))) hkp (fun k_ hk_ hs_=>Or.elim hs_ (fun e_=>(hk_.2) e_) (fun e_=>(hk_.1) e_))) (fun k_ hk_=>hk_.1.1));have n2_:=Aside0.mk (Kd.R_reok rfl hy0 (fun k_ e_=>HO_159002.out.1 k_ e_));have n3_:=Aside0.mk (Kd.R_reok rfl hy1 (fun k_ e_=>HO_159003.out.1 k_ e_));have n4_:=Aside0.mk (blk_kept (by (with_reducible repeat (first|refine blk_drewN ?_ _|refine blk_drew ?_|refine blk_alloc ?_ _));exact BK148.out) hkp (fun hs_=>Or.elim hs_ (fun e_=>(fun e_=>(Kd.R_ne HO_159002.out BK148.out (by decide)) e_) e_) (fun e_=>(fun e_=>(Kd.R_ne HO_159003.out BK148.out (by decide)) e_) e_)));have n5_:=Aside0.mk (blk_kept (by (with_reducible repeat (first|refine blk_drewN ?_ _|refine blk_drew ?_|refine blk_alloc ?_ _));exact BK158.out) hkp (fun hs_=>Or.elim hs_ (fun e_=>(fun e_=>(Kd.R_ne HO_159002.out BK158.out (by decide)) e_) e_) (fun e_=>(fun e_=>(Kd.R_ne HO_159003.out BK158.out (by decide)) e_) e_)));have n6_:=Aside0.mk (hb);clear HO_149002;clear HO_149003;clear HO_159002;clear HO_159003;clear BK148;clear BK158;clear HB;have HO_149002:=n0_;have HO_149003:=n1_;have HO_159002:=n2_;have HO_159003:=n3_;have BK148:=n4_;have BK158:=n5_;have HB:=n6_;clear n0_ n1_ n2_ n3_ n4_ n5_ n6_;(try clear hb);(try clear hkp);(try clear hy0);(try clear hy1);have hcz34_0:w33.cell? ⟨gb158,0,none⟩=some (.string t149):=(blk_cell BK158.out 0).trans rfl;have hcz34_1:w33.cell? ⟨gb158,1,none⟩=some (.string t150):=(blk_cell BK158.out 1).trans rfl;have hcz34_2:w33.cell? ⟨gb158,2,none⟩=some (.slice Ao15 t151.length co15):=(blk_cell BK158.out 2).trans rfl;have hcz34_3:w33.cell? ⟨gb158,3,none⟩=some (.slice Ao16 t154.length co16):=(blk_cell BK158.out 3).trans rfl;have hfz34_0:=blk_frozen BK158.out 0;have hfz34_1:=blk_frozen BK158.out 1;have hfz34_2:=blk_frozen BK158.out 2;have hfz34_3:=blk_frozen BK158.out 3)|((with_reducible refine gate_callee (f:=16) rfl ?_);refine goesL_ (some 38) rfl rfl Tryz.func16 (by kernel_rfl) rfl #[.agg #[.string t149,.string t150,.slice Ao15 t161.length co15,.slice Ao16 t162.length co16],.int .i64 1] rfl (by (try simp only [List.map_toArray,List.map_cons,List.map_nil]);first|done|(rw [show t161.length=t151.length from (Kd.R_reads' HO_159002.out).1.symm,show t162.length=t154.length from (Kd.R_reads' HO_159003.out).1.symm]<;>rfl)|rfl|(simp only [List.length_drop,List.length_take];rfl)) ?_;(with_reducible refine (laws_heldMail.calls kj4 t149 t150 _ _ t161 _ _ t162 1 t163 _ ?side1 ?side2 ?side3 ?side4 A29.out).mono ?_);(case side1=>repeat (first|exact (Kd.R_reads' HO_159002.out).2.2|(with_reducible refine Kd.C_alloc ?_ _)|(with_reducible refine Kd.C_drewN ?_ _)|(with_reducible refine Kd.C_drew ?_)));(case side2=>rw [show t161.length=t151.length from (Kd.R_reads' HO_159002.out).1.symm];exact (Kd.R_reads' HO_159002.out).2.1);(case side3=>repeat (first|exact (Kd.R_reads' HO_159003.out).2.2|(with_reducible refine Kd.C_alloc ?_ _)|(with_reducible refine Kd.C_drewN ?_ _)|(with_reducible refine Kd.C_drew ?_)));(case side4=>rw [show t162.length=t154.length from (Kd.R_reads' HO_159003.out).1.symm];exact (Kd.R_reads' HO_159003.out).2.1);rintro e w35 ⟨rfl,hb⟩;refine ⟨_,rfl,?_⟩;have n0_:=Aside0.mk (Kd.R_below (by (with_reducible repeat (first|apply Kd.R_alloc|apply Kd.R_drewN|apply Kd.R_drew));exact HO_149002.out) hb);have n1_:=Aside0.mk (Kd.R_below (by (with_reducible repeat (first|apply Kd.R_alloc|apply Kd.R_drewN|apply Kd.R_drew));exact HO_149003.out) hb);have n2_:=Aside0.mk (Kd.R_below (by (with_reducible repeat (first|apply Kd.R_alloc|apply Kd.R_drewN|apply Kd.R_drew));exact HO_159002.out) hb);have n3_:=Aside0.mk (Kd.R_below (by (with_reducible repeat (first|apply Kd.R_alloc|apply Kd.R_drewN|apply Kd.R_drew));exact HO_159003.out) hb);have n4_:=Aside0.mk (blk_below (g:=gb148) (o:=.cells #[.string t139,.string t140,.slice Ao9 t141.length co9,.slice Ao10 t144.length co10] 28 (0,0)) (by (with_reducible repeat (first|refine blk_drewN ?_ _|refine blk_drew ?_|refine blk_alloc ?_ _));exact BK148.out) hb);have n5_:=Aside0.mk (blk_below (g:=gb158) (o:=.cells #[.string t149,.string t150,.slice Ao15 t151.length co15,.slice Ao16 t154.length co16] 28 (0,0)) (by (with_reducible repeat (first|refine blk_drewN ?_ _|refine blk_drew ?_|refine blk_alloc ?_ _));exact BK158.out) hb);have n6_:=Aside0.mk (below_step (by repeat (first|(with_reducible first|exact HB.out|apply below_alloc|apply pw_below_drewN|apply below_drew1|refine below_set ?_ GE148.out|refine below_set ?_ GE158.out)|exact HB.out)) hb);clear HO_149002;clear HO_149003;clear HO_159002;clear HO_159003;clear BK148;clear BK158;clear HB;have HO_149002:=n0_;have HO_149003:=n1_;have HO_159002:=n2_;have HO_159003:=n3_;have BK148:=n4_;have BK158:=n5_;have HB:=n6_;clear n0_ n1_ n2_ n3_ n4_ n5_ n6_;(try clear hb);(try clear hb2);(try clear hk);(try clear hi)))
      go_ret
      exact ⟨by first|rfl|(simp [errW_none,errW_some]<;>rfl)|(simp [*,errW_none,errW_some]<;>rfl),by repeat (first|(with_reducible first|exact HB.out|apply below_alloc|apply pw_below_drewN|apply below_drew1|refine below_set ?_ GE148.out|refine below_set ?_ GE158.out)|exact HB.out)⟩
     ·rw [if_neg c30] at H
      have c30b0:decide (t163 < 0)=false:=decide_eq_false c30
      clear c30
      by_cases c36:t163=t160
      ·rw [if_pos c36] at H
       have c36b0:(t163==t160)=true:=beq_iff_eq.mpr c36
       have c36b1:(t163 != t160)=false:=bne_eq_false_iff_eq.mpr c36
       clear c36
       replace H:=Option.bind_eq_some_iff.mp H
       obtain ⟨⟨t164,t165,t166,t169,t172⟩,A370,H⟩:=H
       replace H:((laws_eqMail.f kj4 t164 t165 t166 t169 t139 t140 t141 t144).bind fun t174=>(if t174=true then (laws_FnExactMailGet.j1 kj4 t160 (t172 != t147) t149 t150 t161 t162) else (laws_FnExactMailGet.j1 kj4 t160 true t149 t150 t161 t162)))=some r:=H
       have A37:=Aside0.mk A370
       clear A370
       have HC38:=Aside0.mk H
       clear H
       have hnb39:=NB158_148.out
       have hnc39:=NB148_158.out
       have hcz40_0:wc.cell? ⟨gb158,0,none⟩=some (.string t149):=(blk_cell BK158.out 0).trans rfl
       have hcz40_1:wc.cell? ⟨gb158,1,none⟩=some (.string t150):=(blk_cell BK158.out 1).trans rfl
       have hcz40_2:wc.cell? ⟨gb158,2,none⟩=some (.slice Ao15 t151.length co15):=(blk_cell BK158.out 2).trans rfl
       have hcz40_3:wc.cell? ⟨gb158,3,none⟩=some (.slice Ao16 t154.length co16):=(blk_cell BK158.out 3).trans rfl
       have hfz40_0:=blk_frozen BK158.out 0
       have hfz40_1:=blk_frozen BK158.out 1
       have hfz40_2:=blk_frozen BK158.out 2
       have hfz40_3:=blk_frozen BK158.out 3
       go_upto_region 16 with (first|((with_reducible refine gate_callee (f:=15) rfl ?_);refine goesL_ (some 35) rfl rfl Tryz.func15 (by kernel_rfl) rfl #[.agg #[.string t149,.string t150,.slice Ao15 t151.length co15,.slice Ao16 t154.length co16],.int .i64 1] rfl (by (try simp only [List.map_toArray,List.map_cons,List.map_nil]);first|done|rfl|(simp only [List.length_drop,List.length_take];rfl)) ?_;(with_reducible refine (laws_markMail.calls kj4 t149 t150 (fun k_=>some k_=(.slice Ao15 t151.length co15:Value).ownBlock) (.slice Ao15 t151.length co15) t151 (fun k_=>some k_=(.slice Ao16 t154.length co16:Value).ownBlock) (.slice Ao16 t154.length co16) t154 1 t160 t161 t162 w _ ?side1 ?side2 ?side3 A28.out).mono ?_);(case side1=>repeat (first|(with_reducible first|exact HB.out|apply below_alloc|apply pw_below_drewN|apply below_drew1|refine below_set ?_ GE148.out|refine below_set ?_ GE158.out)|exact HB.out));(case side2=>exact Kd.R_tight rfl HO_159002.out);(case side3=>exact Kd.R_tight rfl HO_159003.out);rintro e w41 ⟨rfl,hy0,hy1,hb,hkp⟩;refine ⟨_,rfl,?_⟩;have n0_:=Aside0.mk (Kd.R_mono (ok':=fun k_=>some k_≠(.slice Ao15 t151.length co15:Value).ownBlock) (Kd.R_keptB ((Kd.R_apart' HO_149002.out (Kd.R_typed HO_159003.out) (by decide))) hkp (fun k_ hk_ hs_=>Or.elim hs_ (fun e_=>(hk_.1) e_) (fun e_=>(hk_.2) e_))) (fun k_ hk_=>hk_.1.1));have n1_:=Aside0.mk (Kd.R_mono (ok':=fun k_=>some k_≠(.slice Ao16 t154.length co16:Value).ownBlock) (Kd.R_keptB ((Kd.R_apart' HO_149003.out (Kd.R_typed HO_159002.out) (by decide))) hkp (fun k_ hk_ hs_=>Or.elim hs_ (fun e_=>(hk_.2) e_) (fun e_=>(hk_.1) e_))) (fun k_ hk_=>hk_.1.1));have n2_:=Aside0.mk (Kd.R_reok rfl hy0 (fun k_ e_=>HO_159002.out.1 k_ e_));have n3_:=Aside0.mk (Kd.R_reok rfl hy1 (fun k_ e_=>HO_159003.out.1 k_ e_));have n4_:=Aside0.mk (blk_kept (by (with_reducible repeat (first|refine blk_drewN ?_ _|refine blk_drew ?_|refine blk_alloc ?_ _));exact BK148.out) hkp (fun hs_=>Or.elim hs_ (fun e_=>(fun e_=>(Kd.R_ne HO_159002.out BK148.out (by decide)) e_) e_) (fun e_=>(fun e_=>(Kd.R_ne HO_159003.out BK148.out (by decide)) e_) e_)));have n5_:=Aside0.mk (blk_kept (by (with_reducible repeat (first|refine blk_drewN ?_ _|refine blk_drew ?_|refine blk_alloc ?_ _));exact BK158.out) hkp (fun hs_=>Or.elim hs_ (fun e_=>(fun e_=>(Kd.R_ne HO_159002.out BK158.out (by decide)) e_) e_) (fun e_=>(fun e_=>(Kd.R_ne HO_159003.out BK158.out (by decide)) e_) e_)));have n6_:=Aside0.mk (hb);clear HO_149002;clear HO_149003;clear HO_159002;clear HO_159003;clear BK148;clear BK158;clear HB;have HO_149002:=n0_;have HO_149003:=n1_;have HO_159002:=n2_;have HO_159003:=n3_;have BK148:=n4_;have BK158:=n5_;have HB:=n6_;clear n0_ n1_ n2_ n3_ n4_ n5_ n6_;(try clear hb);(try clear hkp);(try clear hy0);(try clear hy1);have hcz42_0:w41.cell? ⟨gb158,0,none⟩=some (.string t149):=(blk_cell BK158.out 0).trans rfl;have hcz42_1:w41.cell? ⟨gb158,1,none⟩=some (.string t150):=(blk_cell BK158.out 1).trans rfl;have hcz42_2:w41.cell? ⟨gb158,2,none⟩=some (.slice Ao15 t151.length co15):=(blk_cell BK158.out 2).trans rfl;have hcz42_3:w41.cell? ⟨gb158,3,none⟩=some (.slice Ao16 t154.length co16):=(blk_cell BK158.out 3).trans rfl;have hfz42_0:=blk_frozen BK158.out 0;have hfz42_1:=blk_frozen BK158.out 1;have hfz42_2:=blk_frozen BK158.out 2;have hfz42_3:=blk_frozen BK158.out 3)|((with_reducible refine gate_callee (f:=16) rfl ?_);refine goesL_ (some 38) rfl rfl Tryz.func16 (by kernel_rfl) rfl #[.agg #[.string t149,.string t150,.slice Ao15 t161.length co15,.slice Ao16 t162.length co16],.int .i64 1] rfl (by (try simp only [List.map_toArray,List.map_cons,List.map_nil]);first|done|(rw [show t161.length=t151.length from (Kd.R_reads' HO_159002.out).1.symm,show t162.length=t154.length from (Kd.R_reads' HO_159003.out).1.symm]<;>rfl)|rfl|(simp only [List.length_drop,List.length_take];rfl)) ?_;(with_reducible refine (laws_heldMail.calls kj4 t149 t150 _ _ t161 _ _ t162 1 t163 _ ?side1 ?side2 ?side3 ?side4 A29.out).mono ?_);(case side1=>repeat (first|exact (Kd.R_reads' HO_159002.out).2.2|(with_reducible refine Kd.C_alloc ?_ _)|(with_reducible refine Kd.C_drewN ?_ _)|(with_reducible refine Kd.C_drew ?_)));(case side2=>rw [show t161.length=t151.length from (Kd.R_reads' HO_159002.out).1.symm];exact (Kd.R_reads' HO_159002.out).2.1);(case side3=>repeat (first|exact (Kd.R_reads' HO_159003.out).2.2|(with_reducible refine Kd.C_alloc ?_ _)|(with_reducible refine Kd.C_drewN ?_ _)|(with_reducible refine Kd.C_drew ?_)));(case side4=>rw [show t162.length=t154.length from (Kd.R_reads' HO_159003.out).1.symm];exact (Kd.R_reads' HO_159003.out).2.1);rintro e w43 ⟨rfl,hb⟩;refine ⟨_,rfl,?_⟩;have n0_:=Aside0.mk (Kd.R_below (by (with_reducible repeat (first|apply Kd.R_alloc|apply Kd.R_drewN|apply Kd.R_drew));exact HO_149002.out) hb);have n1_:=Aside0.mk (Kd.R_below (by (with_reducible repeat (first|apply Kd.R_alloc|apply Kd.R_drewN|apply Kd.R_drew));exact HO_149003.out) hb);have n2_:=Aside0.mk (Kd.R_below (by (with_reducible repeat (first|apply Kd.R_alloc|apply Kd.R_drewN|apply Kd.R_drew));exact HO_159002.out) hb);have n3_:=Aside0.mk (Kd.R_below (by (with_reducible repeat (first|apply Kd.R_alloc|apply Kd.R_drewN|apply Kd.R_drew));exact HO_159003.out) hb);have n4_:=Aside0.mk (blk_below (g:=gb148) (o:=.cells #[.string t139,.string t140,.slice Ao9 t141.length co9,.slice Ao10 t144.length co10] 28 (0,0)) (by (with_reducible repeat (first|refine blk_drewN ?_ _|refine blk_drew ?_|refine blk_alloc ?_ _));exact BK148.out) hb);have n5_:=Aside0.mk (blk_below (g:=gb158) (o:=.cells #[.string t149,.string t150,.slice Ao15 t151.length co15,.slice Ao16 t154.length co16] 28 (0,0)) (by (with_reducible repeat (first|refine blk_drewN ?_ _|refine blk_drew ?_|refine blk_alloc ?_ _));exact BK158.out) hb);have n6_:=Aside0.mk (below_step (by repeat (first|(with_reducible first|exact HB.out|apply below_alloc|apply pw_below_drewN|apply below_drew1|refine below_set ?_ GE148.out|refine below_set ?_ GE158.out)|exact HB.out)) hb);clear HO_149002;clear HO_149003;clear HO_159002;clear HO_159003;clear BK148;clear BK158;clear HB;have HO_149002:=n0_;have HO_149003:=n1_;have HO_159002:=n2_;have HO_159003:=n3_;have BK148:=n4_;have BK158:=n5_;have HB:=n6_;clear n0_ n1_ n2_ n3_ n4_ n5_ n6_;(try clear hb);(try clear hb2);(try clear hk);(try clear hi))|((with_reducible refine gate_callee (f:=11) rfl ?_);refine goesL_ (some 46) rfl rfl Tryz.func11 (by kernel_rfl) rfl #[.string a0] rfl (by (try simp only [List.map_toArray,List.map_cons,List.map_nil]);first|done|rfl|(simp only [List.length_drop,List.length_take];rfl)) ?_;(with_reducible refine (impl_MailGet.calls kj4 a0 t164 t165 t166 t169 t172 _ ?side1 A37.out).mono ?_);(case side1=>first|(with_reducible exact HG.out)|((with_reducible repeat (first|exact HG.out|apply GOK.drewN|apply GOK.drew));done)|exact GOK.below HG.out (by repeat (first|(with_reducible first|exact HB.out|apply below_alloc|apply pw_below_drewN|apply below_drew1|refine below_set ?_ GE148.out|refine below_set ?_ GE158.out)|exact HB.out)));rintro e w44 ⟨v167,v170,rfl,ho0,ho1,hb⟩;refine ⟨_,rfl,?_⟩;have n0_:=Aside0.mk (Kd.R_elder' (by (with_reducible repeat (first|apply Kd.R_alloc|apply Kd.R_drewN|apply Kd.R_drew));exact HO_149002.out) (Kd.R_base ho0) hb);have n1_:=Aside0.mk (Kd.R_elder' (by (with_reducible repeat (first|apply Kd.R_alloc|apply Kd.R_drewN|apply Kd.R_drew));exact HO_149003.out) (Kd.R_base ho1) hb);have n2_:=Aside0.mk (Kd.R_elder' (by (with_reducible repeat (first|apply Kd.R_alloc|apply Kd.R_drewN|apply Kd.R_drew));exact HO_159002.out) (Kd.R_base ho0) hb);have n3_:=Aside0.mk (Kd.R_elder' (by (with_reducible repeat (first|apply Kd.R_alloc|apply Kd.R_drewN|apply Kd.R_drew));exact HO_159003.out) (Kd.R_base ho1) hb);have n4_:=Aside0.mk (Kd.R_lower (Kd.R_new' (Kd.R_new' ho0 (Kd.R_lt (by (with_reducible repeat (first|apply Kd.R_alloc|apply Kd.R_drewN|apply Kd.R_drew));exact HO_149002.out))) (Kd.R_lt (by (with_reducible repeat (first|apply Kd.R_alloc|apply Kd.R_drewN|apply Kd.R_drew));exact HO_159002.out))) (below_size (by repeat (first|(with_reducible first|exact HB.out|apply below_alloc|apply pw_below_drewN|apply below_drew1|refine below_set ?_ GE148.out|refine below_set ?_ GE158.out)|exact HB.out))));have n5_:=Aside0.mk (Kd.R_lower (Kd.R_new' (Kd.R_new' ho1 (Kd.R_lt (by (with_reducible repeat (first|apply Kd.R_alloc|apply Kd.R_drewN|apply Kd.R_drew));exact HO_149003.out))) (Kd.R_lt (by (with_reducible repeat (first|apply Kd.R_alloc|apply Kd.R_drewN|apply Kd.R_drew));exact HO_159003.out))) (below_size (by repeat (first|(with_reducible first|exact HB.out|apply below_alloc|apply pw_below_drewN|apply below_drew1|refine below_set ?_ GE148.out|refine below_set ?_ GE158.out)|exact HB.out))));have n6_:=Aside0.mk (blk_below (g:=gb148) (o:=.cells #[.string t139,.string t140,.slice Ao9 t141.length co9,.slice Ao10 t144.length co10] 28 (0,0)) (by (with_reducible repeat (first|refine blk_drewN ?_ _|refine blk_drew ?_|refine blk_alloc ?_ _));exact BK148.out) hb);have n7_:=Aside0.mk (blk_below (g:=gb158) (o:=.cells #[.string t149,.string t150,.slice Ao15 t151.length co15,.slice Ao16 t154.length co16] 28 (0,0)) (by (with_reducible repeat (first|refine blk_drewN ?_ _|refine blk_drew ?_|refine blk_alloc ?_ _));exact BK158.out) hb);have n8_:=Aside0.mk (below_step (by repeat (first|(with_reducible first|exact HB.out|apply below_alloc|apply pw_below_drewN|apply below_drew1|refine below_set ?_ GE148.out|refine below_set ?_ GE158.out)|exact HB.out)) hb);clear HO_149002;clear HO_149003;clear HO_159002;clear HO_159003;clear BK148;clear BK158;clear HB;have HO_149002:=n0_;have HO_149003:=n1_;have HO_159002:=n2_;have HO_159003:=n3_;have HO168:=n4_;have HO171:=n5_;have BK148:=n6_;have BK158:=n7_;have HB:=n8_;clear n0_ n1_ n2_ n3_ n4_ n5_ n6_ n7_ n8_;(try clear hb);(try clear hb2);(try clear hk);(try clear hi);(try clear ho0);(try clear ho1))|((with_reducible refine gate_dst (N:=9) rfl ?_);refine box_event ?hg (N:=9) ?hd (cs:=#[.string bz0,.string bz0,.slice none 0 0,.slice none 0 0]) (t:=28) ?hr ?_;(case hd=>rfl);(case hg=>rfl);(case hr=>first|(go_simp;done)|(go_simp;rfl));intro gb173 hg w45 hbox hb;have n0_:=Aside0.mk (Kd.R_below (by (with_reducible repeat (first|apply Kd.R_alloc|apply Kd.R_drewN|apply Kd.R_drew));exact HO_149002.out) hb);have n1_:=Aside0.mk (Kd.R_below (by (with_reducible repeat (first|apply Kd.R_alloc|apply Kd.R_drewN|apply Kd.R_drew));exact HO_149003.out) hb);have n2_:=Aside0.mk (Kd.R_below (by (with_reducible repeat (first|apply Kd.R_alloc|apply Kd.R_drewN|apply Kd.R_drew));exact HO_159002.out) hb);have n3_:=Aside0.mk (Kd.R_below (by (with_reducible repeat (first|apply Kd.R_alloc|apply Kd.R_drewN|apply Kd.R_drew));exact HO_159003.out) hb);have n4_:=Aside0.mk (Kd.R_below (by (with_reducible repeat (first|apply Kd.R_alloc|apply Kd.R_drewN|apply Kd.R_drew));exact HO168.out) hb);have n5_:=Aside0.mk (Kd.R_below (by (with_reducible repeat (first|apply Kd.R_alloc|apply Kd.R_drewN|apply Kd.R_drew));exact HO171.out) hb);have n6_:=Aside0.mk (blk_below (g:=gb148) (o:=.cells #[.string t139,.string t140,.slice Ao9 t141.length co9,.slice Ao10 t144.length co10] 28 (0,0)) (by (with_reducible repeat (first|refine blk_drewN ?_ _|refine blk_drew ?_|refine blk_alloc ?_ _));exact BK148.out) hb);have n7_:=Aside0.mk (blk_below (g:=gb158) (o:=.cells #[.string t149,.string t150,.slice Ao15 t151.length co15,.slice Ao16 t154.length co16] 28 (0,0)) (by (with_reducible repeat (first|refine blk_drewN ?_ _|refine blk_drew ?_|refine blk_alloc ?_ _));exact BK158.out) hb);have n8_:=Aside0.mk (below_step (by repeat (first|(with_reducible first|exact HB.out|apply below_alloc|apply pw_below_drewN|apply below_drew1|refine below_set ?_ GE148.out|refine below_set ?_ GE158.out)|exact HB.out)) hb);have n9_:=Aside0.mk (hbox);have n10_:=Aside0.mk ((by rw [hg];exact (below_size (by repeat (first|(with_reducible first|exact HB.out|apply below_alloc|apply pw_below_drewN|apply below_drew1|refine below_set ?_ GE148.out|refine below_set ?_ GE158.out)|exact HB.out))):w.heap.size≤gb173));have n11_:=Aside0.mk ((by rw [hg];exact (below_size (by repeat (first|(with_reducible first|exact HB.out|apply below_alloc|apply pw_below_drewN|apply below_drew1|refine below_set ?_ GE148.out|refine below_set ?_ GE158.out)|exact HB.out))):w.heap.size≤gb173));have n12_:=Aside0.mk ((by rw [hg];exact Nat.ne_of_lt (blk_lt (g:=gb148) (o:=.cells #[.string t139,.string t140,.slice Ao9 t141.length co9,.slice Ao10 t144.length co10] 28 (0,0)) (by (with_reducible repeat (first|refine blk_drewN ?_ _|refine blk_drew ?_|refine blk_alloc ?_ _));exact BK148.out)):gb148≠gb173));have n13_:=Aside0.mk ((by rw [hg];exact Nat.ne_of_gt (blk_lt (g:=gb148) (o:=.cells #[.string t139,.string t140,.slice Ao9 t141.length co9,.slice Ao10 t144.length co10] 28 (0,0)) (by (with_reducible repeat (first|refine blk_drewN ?_ _|refine blk_drew ?_|refine blk_alloc ?_ _));exact BK148.out)):gb173≠gb148));have n14_:=Aside0.mk ((by rw [hg];exact Nat.ne_of_lt (blk_lt (g:=gb158) (o:=.cells #[.string t149,.string t150,.slice Ao15 t151.length co15,.slice Ao16 t154.length co16] 28 (0,0)) (by (with_reducible repeat (first|refine blk_drewN ?_ _|refine blk_drew ?_|refine blk_alloc ?_ _));exact BK158.out)):gb158≠gb173));have n15_:=Aside0.mk ((by rw [hg];exact Nat.ne_of_gt (blk_lt (g:=gb158) (o:=.cells #[.string t149,.string t150,.slice Ao15 t151.length co15,.slice Ao16 t154.length co16] 28 (0,0)) (by (with_reducible repeat (first|refine blk_drewN ?_ _|refine blk_drew ?_|refine blk_alloc ?_ _));exact BK158.out)):gb173≠gb158));clear HO_149002;clear HO_149003;clear HO_159002;clear HO_159003;clear HO168;clear HO171;clear BK148;clear BK158;clear HB;have HO_149002:=n0_;have HO_149003:=n1_;have HO_159002:=n2_;have HO_159003:=n3_;have HO168:=n4_;have HO171:=n5_;have BK148:=n6_;have BK158:=n7_;have HB:=n8_;have BK173:=n9_;have GW173:=n10_;have GE173:=n11_;have NB148_173:=n12_;have NB173_148:=n13_;have NB158_173:=n14_;have NB173_158:=n15_;clear n0_ n1_ n2_ n3_ n4_ n5_ n6_ n7_ n8_ n9_ n10_ n11_ n12_ n13_ n14_ n15_;clear hb hbox hg;have hnb46:=NB173_148.out;have hnc46:=NB148_173.out;have hnb47:=NB173_158.out;have hnc47:=NB158_173.out;have hcz48_0:w45.cell? ⟨gb173,0,none⟩=some (.string bz0):=(blk_cell BK173.out 0).trans rfl;have hcz48_1:w45.cell? ⟨gb173,1,none⟩=some (.string bz0):=(blk_cell BK173.out 1).trans rfl;have hcz48_2:w45.cell? ⟨gb173,2,none⟩=some (.slice none 0 0):=(blk_cell BK173.out 2).trans rfl;have hcz48_3:w45.cell? ⟨gb173,3,none⟩=some (.slice none 0 0):=(blk_cell BK173.out 3).trans rfl;have hfz48_0:=blk_frozen BK173.out 0;have hfz48_1:=blk_frozen BK173.out 1;have hfz48_2:=blk_frozen BK173.out 2;have hfz48_3:=blk_frozen BK173.out 3;obtain ⟨Ao49,co49,eo49⟩:=Kd.R_slice HO168.out;subst eo49;obtain ⟨Ao50,co50,eo50⟩:=Kd.R_slice HO171.out;subst eo50))
       (try simp only [Act.put,List.setIfInBounds_toArray,List.set_cons_zero,List.set_cons_succ])
       go_cut [57] (fun v57 wc=>∃ (kq:Nat) (x57_37:Bool),v57=.bool x57_37∧Aside0 (laws_FnExactMailGet.j1 kq t160 x57_37 t149 t150 t161 t162=some r)∧Aside0 (kq≤kj4)∧Aside0 (Kd.R k24 24 wc w.heap.size (fun k_=>some k_≠((.slice Ao15 t151.length co15):Value).ownBlock∧some k_≠((.slice Ao49 t166.length co49):Value).ownBlock) (.slice Ao9 t141.length co9) t141)∧Aside0 (Kd.R Kd.string 9 wc w.heap.size (fun k_=>some k_≠((.slice Ao16 t154.length co16):Value).ownBlock∧some k_≠((.slice Ao50 t169.length co50):Value).ownBlock) (.slice Ao10 t144.length co10) t144)∧Aside0 (Kd.R k24 24 wc w.heap.size (fun k_=>some k_≠((.slice Ao9 t141.length co9):Value).ownBlock∧some k_≠((.slice Ao49 t166.length co49):Value).ownBlock) (.slice Ao15 t151.length co15) t161)∧Aside0 (Kd.R Kd.string 9 wc w.heap.size (fun k_=>some k_≠((.slice Ao10 t144.length co10):Value).ownBlock∧some k_≠((.slice Ao50 t169.length co50):Value).ownBlock) (.slice Ao16 t154.length co16) t162)∧Aside0 (Kd.R k24 24 wc w.heap.size (fun k_=>some k_≠((.slice Ao9 t141.length co9):Value).ownBlock∧some k_≠((.slice Ao15 t151.length co15):Value).ownBlock) (.slice Ao49 t166.length co49) t166)∧Aside0 (Kd.R Kd.string 9 wc w.heap.size (fun k_=>some k_≠((.slice Ao10 t144.length co10):Value).ownBlock∧some k_≠((.slice Ao16 t154.length co16):Value).ownBlock) (.slice Ao50 t169.length co50) t169)∧Aside0 (wc.heap[gb148]?=some (.cells #[.string t139,.string t140,(.slice Ao9 t141.length co9),(.slice Ao10 t144.length co10)] 28 (0,0)))∧Aside0 (wc.heap[gb158]?=some (.cells #[.string t149,.string t150,(.slice Ao15 t151.length co15),(.slice Ao16 t154.length co16)] 28 (0,0)))∧Aside0 (wc.heap[gb173]?=some (.cells #[.string t164,.string t165,(.slice Ao49 t166.length co49),(.slice Ao50 t169.length co50)] 28 (0,0)))∧Aside0 (Below w.heap.size w wc))
       case first =>
        have H:=HC38.out
        clear HC38
        replace H:=Option.bind_eq_some_iff.mp H
        obtain ⟨t174,A510,H⟩:=H
        replace H:(if t174=true then (laws_FnExactMailGet.j1 kj4 t160 (t172 != t147) t149 t150 t161 t162) else (laws_FnExactMailGet.j1 kj4 t160 true t149 t150 t161 t162))=some r:=H
        have A51:=Aside0.mk A510
        clear A510
        by_cases c52:t174=true
        ·subst c52
         have H1:(laws_FnExactMailGet.j1 kj4 t160 (t172 != t147) t149 t150 t161 t162)=some r:=by rw [if_pos rfl] at H;exact H
         clear H
         have H:=H1
         clear H1
         have H':=Aside0.mk H
         clear H
         have hnb53:=NB173_148.out
         have hnc53:=NB148_173.out
         have hnb54:=NB173_158.out
         have hnc54:=NB158_173.out
         have hcz55_0:w45.cell? ⟨gb173,0,none⟩=some (.string bz0):=(blk_cell BK173.out 0).trans rfl
         have hcz55_1:w45.cell? ⟨gb173,1,none⟩=some (.string bz0):=(blk_cell BK173.out 1).trans rfl
         have hcz55_2:w45.cell? ⟨gb173,2,none⟩=some (.slice none 0 0):=(blk_cell BK173.out 2).trans rfl
         have hcz55_3:w45.cell? ⟨gb173,3,none⟩=some (.slice none 0 0):=(blk_cell BK173.out 3).trans rfl
         have hfz55_0:=blk_frozen BK173.out 0
         have hfz55_1:=blk_frozen BK173.out 1
         have hfz55_2:=blk_frozen BK173.out 2
         have hfz55_3:=blk_frozen BK173.out 3
         have hnb56:=NB148_158.out
         have hnc56:=NB158_148.out
         have hcz57_0:w45.cell? ⟨gb148,0,none⟩=some (.string t139):=(blk_cell BK148.out 0).trans rfl
         have hcz57_1:w45.cell? ⟨gb148,1,none⟩=some (.string t140):=(blk_cell BK148.out 1).trans rfl
         have hcz57_2:w45.cell? ⟨gb148,2,none⟩=some (.slice Ao9 t141.length co9):=(blk_cell BK148.out 2).trans rfl
         have hcz57_3:w45.cell? ⟨gb148,3,none⟩=some (.slice Ao10 t144.length co10):=(blk_cell BK148.out 3).trans rfl
         have hfz57_0:=blk_frozen BK148.out 0
         have hfz57_1:=blk_frozen BK148.out 1
         have hfz57_2:=blk_frozen BK148.out 2
         have hfz57_3:=blk_frozen BK148.out 3
         go_wp2_with (first|((with_reducible refine gate_callee (f:=14) rfl ?_);refine goesL_ (some 51) rfl rfl Tryz.func14 (by kernel_rfl) rfl #[.agg #[.string t164,.string t165,.slice Ao49 t166.length co49,.slice Ao50 t169.length co50],.agg #[.string t139,.string t140,.slice Ao9 t141.length co9,.slice Ao10 t144.length co10]] rfl (by (try simp only [List.map_toArray,List.map_cons,List.map_nil]);first|done|rfl|(simp only [List.length_drop,List.length_take];rfl)) ?_;(with_reducible refine (laws_eqMail.calls kj4 t164 t165 _ _ t166 _ _ t169 t139 t140 _ _ t141 _ _ t144 true _ ?side1 ?side2 ?side3 ?side4 ?side5 ?side6 ?side7 ?side8 A51.out).mono ?_);(case side1=>refine (Kd.R_reads' (e:=24) (base:=w.heap.size) (ok:=fun k_=>((True∧some k_≠(.slice Ao9 t141.length co9:Value).ownBlock)∧some k_≠(.slice Ao15 t151.length co15:Value).ownBlock)) (n:=t166.length) (c:=co49) ?_).2.2;exact (by (with_reducible repeat (first|apply Kd.R_alloc|apply Kd.R_drewN|apply Kd.R_drew));exact (Kd.R_mono (Kd.R_far (p:=⟨gb173,3,none⟩) (Kd.R_far (p:=⟨gb173,2,none⟩) (Kd.R_far (p:=⟨gb173,1,none⟩) (Kd.R_far (p:=⟨gb173,0,none⟩) (Kd.R_types HO168.out BK173.out (by decide)) (fun _ hk=>hk.2) (.string t164)) (fun _ hk=>hk.2) (.string t165)) (fun _ hk=>hk.2) (.slice Ao49 t166.length co49)) (fun _ hk=>hk.2) (.slice Ao50 t169.length co50)) (fun _ h_=>h_.1))));(case side2=>exact (Kd.R_reads' HO168.out).2.1);(case side3=>refine (Kd.R_reads' (e:=9) (base:=w.heap.size) (ok:=fun k_=>((True∧some k_≠(.slice Ao10 t144.length co10:Value).ownBlock)∧some k_≠(.slice Ao16 t154.length co16:Value).ownBlock)) (n:=t169.length) (c:=co50) ?_).2.2;exact (by (with_reducible repeat (first|apply Kd.R_alloc|apply Kd.R_drewN|apply Kd.R_drew));exact (Kd.R_mono (Kd.R_far (p:=⟨gb173,3,none⟩) (Kd.R_far (p:=⟨gb173,2,none⟩) (Kd.R_far (p:=⟨gb173,1,none⟩) (Kd.R_far (p:=⟨gb173,0,none⟩) (Kd.R_types HO171.out BK173.out (by decide)) (fun _ hk=>hk.2) (.string t164)) (fun _ hk=>hk.2) (.string t165)) (fun _ hk=>hk.2) (.slice Ao49 t166.length co49)) (fun _ hk=>hk.2) (.slice Ao50 t169.length co50)) (fun _ h_=>h_.1))));(case side4=>exact (Kd.R_reads' HO171.out).2.1);(case side5=>refine (Kd.R_reads' (e:=24) (base:=w.heap.size) (ok:=fun k_=>(some k_≠(.slice Ao15 t151.length co15:Value).ownBlock∧some k_≠(.slice Ao49 t166.length co49:Value).ownBlock)) (n:=t141.length) (c:=co9) ?_).2.2;exact (by (with_reducible repeat (first|apply Kd.R_alloc|apply Kd.R_drewN|apply Kd.R_drew));exact (Kd.R_mono (Kd.R_far (p:=⟨gb173,3,none⟩) (Kd.R_far (p:=⟨gb173,2,none⟩) (Kd.R_far (p:=⟨gb173,1,none⟩) (Kd.R_far (p:=⟨gb173,0,none⟩) (Kd.R_types HO_149002.out BK173.out (by decide)) (fun _ hk=>hk.2) (.string t164)) (fun _ hk=>hk.2) (.string t165)) (fun _ hk=>hk.2) (.slice Ao49 t166.length co49)) (fun _ hk=>hk.2) (.slice Ao50 t169.length co50)) (fun _ h_=>h_.1))));(case side6=>exact (Kd.R_reads' HO_149002.out).2.1);(case side7=>refine (Kd.R_reads' (e:=9) (base:=w.heap.size) (ok:=fun k_=>(some k_≠(.slice Ao16 t154.length co16:Value).ownBlock∧some k_≠(.slice Ao50 t169.length co50:Value).ownBlock)) (n:=t144.length) (c:=co10) ?_).2.2;exact (by (with_reducible repeat (first|apply Kd.R_alloc|apply Kd.R_drewN|apply Kd.R_drew));exact (Kd.R_mono (Kd.R_far (p:=⟨gb173,3,none⟩) (Kd.R_far (p:=⟨gb173,2,none⟩) (Kd.R_far (p:=⟨gb173,1,none⟩) (Kd.R_far (p:=⟨gb173,0,none⟩) (Kd.R_types HO_149003.out BK173.out (by decide)) (fun _ hk=>hk.2) (.string t164)) (fun _ hk=>hk.2) (.string t165)) (fun _ hk=>hk.2) (.slice Ao49 t166.length co49)) (fun _ hk=>hk.2) (.slice Ao50 t169.length co50)) (fun _ h_=>h_.1))));(case side8=>exact (Kd.R_reads' HO_149003.out).2.1);rintro e w58 ⟨rfl,hb⟩;refine ⟨_,rfl,?_⟩;have n0_:=Aside0.mk (Kd.R_below (by (with_reducible repeat (first|apply Kd.R_alloc|apply Kd.R_drewN|apply Kd.R_drew));exact (Kd.R_mono (Kd.R_far (p:=⟨gb173,3,none⟩) (Kd.R_far (p:=⟨gb173,2,none⟩) (Kd.R_far (p:=⟨gb173,1,none⟩) (Kd.R_far (p:=⟨gb173,0,none⟩) (Kd.R_types HO_149002.out BK173.out (by decide)) (fun _ hk=>hk.2) (.string t164)) (fun _ hk=>hk.2) (.string t165)) (fun _ hk=>hk.2) (.slice Ao49 t166.length co49)) (fun _ hk=>hk.2) (.slice Ao50 t169.length co50)) (fun _ h_=>h_.1))) hb);have n1_:=Aside0.mk (Kd.R_below (by (with_reducible repeat (first|apply Kd.R_alloc|apply Kd.R_drewN|apply Kd.R_drew));exact (Kd.R_mono (Kd.R_far (p:=⟨gb173,3,none⟩) (Kd.R_far (p:=⟨gb173,2,none⟩) (Kd.R_far (p:=⟨gb173,1,none⟩) (Kd.R_far (p:=⟨gb173,0,none⟩) (Kd.R_types HO_149003.out BK173.out (by decide)) (fun _ hk=>hk.2) (.string t164)) (fun _ hk=>hk.2) (.string t165)) (fun _ hk=>hk.2) (.slice Ao49 t166.length co49)) (fun _ hk=>hk.2) (.slice Ao50 t169.length co50)) (fun _ h_=>h_.1))) hb);have n2_:=Aside0.mk (Kd.R_below (by (with_reducible repeat (first|apply Kd.R_alloc|apply Kd.R_drewN|apply Kd.R_drew));exact (Kd.R_mono (Kd.R_far (p:=⟨gb173,3,none⟩) (Kd.R_far (p:=⟨gb173,2,none⟩) (Kd.R_far (p:=⟨gb173,1,none⟩) (Kd.R_far (p:=⟨gb173,0,none⟩) (Kd.R_types HO_159002.out BK173.out (by decide)) (fun _ hk=>hk.2) (.string t164)) (fun _ hk=>hk.2) (.string t165)) (fun _ hk=>hk.2) (.slice Ao49 t166.length co49)) (fun _ hk=>hk.2) (.slice Ao50 t169.length co50)) (fun _ h_=>h_.1))) hb);have n3_:=Aside0.mk (Kd.R_below (by (with_reducible repeat (first|apply Kd.R_alloc|apply Kd.R_drewN|apply Kd.R_drew));exact (Kd.R_mono (Kd.R_far (p:=⟨gb173,3,none⟩) (Kd.R_far (p:=⟨gb173,2,none⟩) (Kd.R_far (p:=⟨gb173,1,none⟩) (Kd.R_far (p:=⟨gb173,0,none⟩) (Kd.R_types HO_159003.out BK173.out (by decide)) (fun _ hk=>hk.2) (.string t164)) (fun _ hk=>hk.2) (.string t165)) (fun _ hk=>hk.2) (.slice Ao49 t166.length co49)) (fun _ hk=>hk.2) (.slice Ao50 t169.length co50)) (fun _ h_=>h_.1))) hb);have n4_:=Aside0.mk (Kd.R_below (by (with_reducible repeat (first|apply Kd.R_alloc|apply Kd.R_drewN|apply Kd.R_drew));exact (Kd.R_mono (Kd.R_far (p:=⟨gb173,3,none⟩) (Kd.R_far (p:=⟨gb173,2,none⟩) (Kd.R_far (p:=⟨gb173,1,none⟩) (Kd.R_far (p:=⟨gb173,0,none⟩) (Kd.R_types HO168.out BK173.out (by decide)) (fun _ hk=>hk.2) (.string t164)) (fun _ hk=>hk.2) (.string t165)) (fun _ hk=>hk.2) (.slice Ao49 t166.length co49)) (fun _ hk=>hk.2) (.slice Ao50 t169.length co50)) (fun _ h_=>h_.1))) hb);have n5_:=Aside0.mk (Kd.R_below (by (with_reducible repeat (first|apply Kd.R_alloc|apply Kd.R_drewN|apply Kd.R_drew));exact (Kd.R_mono (Kd.R_far (p:=⟨gb173,3,none⟩) (Kd.R_far (p:=⟨gb173,2,none⟩) (Kd.R_far (p:=⟨gb173,1,none⟩) (Kd.R_far (p:=⟨gb173,0,none⟩) (Kd.R_types HO171.out BK173.out (by decide)) (fun _ hk=>hk.2) (.string t164)) (fun _ hk=>hk.2) (.string t165)) (fun _ hk=>hk.2) (.slice Ao49 t166.length co49)) (fun _ hk=>hk.2) (.slice Ao50 t169.length co50)) (fun _ h_=>h_.1))) hb);have n6_:=Aside0.mk (blk_below (g:=gb148) (o:=.cells #[.string t139,.string t140,.slice Ao9 t141.length co9,.slice Ao10 t144.length co10] 28 (0,0)) (by (with_reducible repeat (first|refine blk_drewN ?_ _|refine blk_drew ?_|refine blk_alloc ?_ _));refine blk_far ?_ NB148_173.out _;(with_reducible repeat (first|refine blk_drewN ?_ _|refine blk_drew ?_|refine blk_alloc ?_ _));refine blk_far ?_ NB148_173.out _;(with_reducible repeat (first|refine blk_drewN ?_ _|refine blk_drew ?_|refine blk_alloc ?_ _));refine blk_far ?_ NB148_173.out _;(with_reducible repeat (first|refine blk_drewN ?_ _|refine blk_drew ?_|refine blk_alloc ?_ _));refine blk_far ?_ NB148_173.out _;(with_reducible repeat (first|refine blk_drewN ?_ _|refine blk_drew ?_|refine blk_alloc ?_ _));exact BK148.out) hb);have n7_:=Aside0.mk (blk_below (g:=gb158) (o:=.cells #[.string t149,.string t150,.slice Ao15 t151.length co15,.slice Ao16 t154.length co16] 28 (0,0)) (by (with_reducible repeat (first|refine blk_drewN ?_ _|refine blk_drew ?_|refine blk_alloc ?_ _));refine blk_far ?_ NB158_173.out _;(with_reducible repeat (first|refine blk_drewN ?_ _|refine blk_drew ?_|refine blk_alloc ?_ _));refine blk_far ?_ NB158_173.out _;(with_reducible repeat (first|refine blk_drewN ?_ _|refine blk_drew ?_|refine blk_alloc ?_ _));refine blk_far ?_ NB158_173.out _;(with_reducible repeat (first|refine blk_drewN ?_ _|refine blk_drew ?_|refine blk_alloc ?_ _));refine blk_far ?_ NB158_173.out _;(with_reducible repeat (first|refine blk_drewN ?_ _|refine blk_drew ?_|refine blk_alloc ?_ _));exact BK158.out) hb);have n8_:=Aside0.mk (blk_below (g:=gb173) (o:=.cells #[.string t164,.string t165,.slice Ao49 t166.length co49,.slice Ao50 t169.length co50] 28 (0,0)) (by (with_reducible repeat (first|refine blk_drewN ?_ _|refine blk_drew ?_|refine blk_alloc ?_ _));refine blk_put (cs:=#[.string t164,.string t165,.slice Ao49 t166.length co49,.slice none 0 0]) ?_ 3 _ rfl;(with_reducible repeat (first|refine blk_drewN ?_ _|refine blk_drew ?_|refine blk_alloc ?_ _));refine blk_put (cs:=#[.string t164,.string t165,.slice none 0 0,.slice none 0 0]) ?_ 2 _ rfl;(with_reducible repeat (first|refine blk_drewN ?_ _|refine blk_drew ?_|refine blk_alloc ?_ _));refine blk_put (cs:=#[.string t164,.string bz0,.slice none 0 0,.slice none 0 0]) ?_ 1 _ rfl;(with_reducible repeat (first|refine blk_drewN ?_ _|refine blk_drew ?_|refine blk_alloc ?_ _));refine blk_put (cs:=#[.string bz0,.string bz0,.slice none 0 0,.slice none 0 0]) ?_ 0 _ rfl;(with_reducible repeat (first|refine blk_drewN ?_ _|refine blk_drew ?_|refine blk_alloc ?_ _));exact BK173.out) hb);have n9_:=Aside0.mk (below_step (by repeat (first|(with_reducible first|exact HB.out|apply below_alloc|apply pw_below_drewN|apply below_drew1|refine below_set ?_ GE148.out|refine below_set ?_ GE158.out|refine below_set ?_ GE173.out)|exact HB.out)) hb);clear HO_149002;clear HO_149003;clear HO_159002;clear HO_159003;clear HO168;clear HO171;clear BK148;clear BK158;clear BK173;clear HB;have HO_149002:=n0_;have HO_149003:=n1_;have HO_159002:=n2_;have HO_159003:=n3_;have HO168:=n4_;have HO171:=n5_;have BK148:=n6_;have BK158:=n7_;have BK173:=n8_;have HB:=n9_;clear n0_ n1_ n2_ n3_ n4_ n5_ n6_ n7_ n8_ n9_;(try clear hb);(try clear hb2);(try clear hk);(try clear hi)))
         go_meet
         case rel=>exact ⟨_,((t172 != t147)),(by first|rfl|(simp;done)|(simp [*];done)),H',⟨by have:=HJ4.out;first|omega|exact Nat.le_refl _⟩,⟨by (with_reducible repeat (first|apply Kd.R_alloc|apply Kd.R_drewN|apply Kd.R_drew));exact HO_149002.out⟩,⟨by (with_reducible repeat (first|apply Kd.R_alloc|apply Kd.R_drewN|apply Kd.R_drew));exact HO_149003.out⟩,⟨by (with_reducible repeat (first|apply Kd.R_alloc|apply Kd.R_drewN|apply Kd.R_drew));exact HO_159002.out⟩,⟨by (with_reducible repeat (first|apply Kd.R_alloc|apply Kd.R_drewN|apply Kd.R_drew));exact HO_159003.out⟩,⟨by (with_reducible repeat (first|apply Kd.R_alloc|apply Kd.R_drewN|apply Kd.R_drew));exact Kd.R_mono HO168.out (fun _ hk=>⟨hk.1.2,hk.2⟩)⟩,⟨by (with_reducible repeat (first|apply Kd.R_alloc|apply Kd.R_drewN|apply Kd.R_drew));exact Kd.R_mono HO171.out (fun _ hk=>⟨hk.1.2,hk.2⟩)⟩,⟨by (with_reducible repeat (first|refine blk_drewN ?_ _|refine blk_drew ?_|refine blk_alloc ?_ _));exact BK148.out⟩,⟨by (with_reducible repeat (first|refine blk_drewN ?_ _|refine blk_drew ?_|refine blk_alloc ?_ _));exact BK158.out⟩,⟨by (with_reducible repeat (first|refine blk_drewN ?_ _|refine blk_drew ?_|refine blk_alloc ?_ _));exact BK173.out⟩,⟨by repeat (first|(with_reducible first|exact HB.out|apply below_alloc|apply pw_below_drewN|apply below_drew1|refine below_set ?_ GE148.out|refine below_set ?_ GE158.out|refine below_set ?_ GE173.out)|exact HB.out)⟩⟩
        ·replace c52:=Bool.eq_false_iff.mpr c52
         subst c52
         have H1:(laws_FnExactMailGet.j1 kj4 t160 true t149 t150 t161 t162)=some r:=by rw [if_neg (show ¬ (false=true) by decide)] at H;exact H
         clear H
         have H:=H1
         clear H1
         have H':=Aside0.mk H
         clear H
         have hnb59:=NB173_148.out
         have hnc59:=NB148_173.out
         have hnb60:=NB173_158.out
         have hnc60:=NB158_173.out
         have hcz61_0:w45.cell? ⟨gb173,0,none⟩=some (.string bz0):=(blk_cell BK173.out 0).trans rfl
         have hcz61_1:w45.cell? ⟨gb173,1,none⟩=some (.string bz0):=(blk_cell BK173.out 1).trans rfl
         have hcz61_2:w45.cell? ⟨gb173,2,none⟩=some (.slice none 0 0):=(blk_cell BK173.out 2).trans rfl
         have hcz61_3:w45.cell? ⟨gb173,3,none⟩=some (.slice none 0 0):=(blk_cell BK173.out 3).trans rfl
         have hfz61_0:=blk_frozen BK173.out 0
         have hfz61_1:=blk_frozen BK173.out 1
         have hfz61_2:=blk_frozen BK173.out 2
         have hfz61_3:=blk_frozen BK173.out 3
         have hnb62:=NB148_158.out
         have hnc62:=NB158_148.out
         have hcz63_0:w45.cell? ⟨gb148,0,none⟩=some (.string t139):=(blk_cell BK148.out 0).trans rfl
         have hcz63_1:w45.cell? ⟨gb148,1,none⟩=some (.string t140):=(blk_cell BK148.out 1).trans rfl
         have hcz63_2:w45.cell? ⟨gb148,2,none⟩=some (.slice Ao9 t141.length co9):=(blk_cell BK148.out 2).trans rfl
         have hcz63_3:w45.cell? ⟨gb148,3,none⟩=some (.slice Ao10 t144.length co10):=(blk_cell BK148.out 3).trans rfl
         have hfz63_0:=blk_frozen BK148.out 0
         have hfz63_1:=blk_frozen BK148.out 1
         have hfz63_2:=blk_frozen BK148.out 2
         have hfz63_3:=blk_frozen BK148.out 3
         go_wp2_with (first|((with_reducible refine gate_callee (f:=14) rfl ?_);refine goesL_ (some 51) rfl rfl Tryz.func14 (by kernel_rfl) rfl #[.agg #[.string t164,.string t165,.slice Ao49 t166.length co49,.slice Ao50 t169.length co50],.agg #[.string t139,.string t140,.slice Ao9 t141.length co9,.slice Ao10 t144.length co10]] rfl (by (try simp only [List.map_toArray,List.map_cons,List.map_nil]);first|done|rfl|(simp only [List.length_drop,List.length_take];rfl)) ?_;(with_reducible refine (laws_eqMail.calls kj4 t164 t165 _ _ t166 _ _ t169 t139 t140 _ _ t141 _ _ t144 false _ ?side1 ?side2 ?side3 ?side4 ?side5 ?side6 ?side7 ?side8 A51.out).mono ?_);(case side1=>refine (Kd.R_reads' (e:=24) (base:=w.heap.size) (ok:=fun k_=>((True∧some k_≠(.slice Ao9 t141.length co9:Value).ownBlock)∧some k_≠(.slice Ao15 t151.length co15:Value).ownBlock)) (n:=t166.length) (c:=co49) ?_).2.2;exact (by (with_reducible repeat (first|apply Kd.R_alloc|apply Kd.R_drewN|apply Kd.R_drew));exact (Kd.R_mono (Kd.R_far (p:=⟨gb173,3,none⟩) (Kd.R_far (p:=⟨gb173,2,none⟩) (Kd.R_far (p:=⟨gb173,1,none⟩) (Kd.R_far (p:=⟨gb173,0,none⟩) (Kd.R_types HO168.out BK173.out (by decide)) (fun _ hk=>hk.2) (.string t164)) (fun _ hk=>hk.2) (.string t165)) (fun _ hk=>hk.2) (.slice Ao49 t166.length co49)) (fun _ hk=>hk.2) (.slice Ao50 t169.length co50)) (fun _ h_=>h_.1))));(case side2=>exact (Kd.R_reads' HO168.out).2.1);(case side3=>refine (Kd.R_reads' (e:=9) (base:=w.heap.size) (ok:=fun k_=>((True∧some k_≠(.slice Ao10 t144.length co10:Value).ownBlock)∧some k_≠(.slice Ao16 t154.length co16:Value).ownBlock)) (n:=t169.length) (c:=co50) ?_).2.2;exact (by (with_reducible repeat (first|apply Kd.R_alloc|apply Kd.R_drewN|apply Kd.R_drew));exact (Kd.R_mono (Kd.R_far (p:=⟨gb173,3,none⟩) (Kd.R_far (p:=⟨gb173,2,none⟩) (Kd.R_far (p:=⟨gb173,1,none⟩) (Kd.R_far (p:=⟨gb173,0,none⟩) (Kd.R_types HO171.out BK173.out (by decide)) (fun _ hk=>hk.2) (.string t164)) (fun _ hk=>hk.2) (.string t165)) (fun _ hk=>hk.2) (.slice Ao49 t166.length co49)) (fun _ hk=>hk.2) (.slice Ao50 t169.length co50)) (fun _ h_=>h_.1))));(case side4=>exact (Kd.R_reads' HO171.out).2.1);(case side5=>refine (Kd.R_reads' (e:=24) (base:=w.heap.size) (ok:=fun k_=>(some k_≠(.slice Ao15 t151.length co15:Value).ownBlock∧some k_≠(.slice Ao49 t166.length co49:Value).ownBlock)) (n:=t141.length) (c:=co9) ?_).2.2;exact (by (with_reducible repeat (first|apply Kd.R_alloc|apply Kd.R_drewN|apply Kd.R_drew));exact (Kd.R_mono (Kd.R_far (p:=⟨gb173,3,none⟩) (Kd.R_far (p:=⟨gb173,2,none⟩) (Kd.R_far (p:=⟨gb173,1,none⟩) (Kd.R_far (p:=⟨gb173,0,none⟩) (Kd.R_types HO_149002.out BK173.out (by decide)) (fun _ hk=>hk.2) (.string t164)) (fun _ hk=>hk.2) (.string t165)) (fun _ hk=>hk.2) (.slice Ao49 t166.length co49)) (fun _ hk=>hk.2) (.slice Ao50 t169.length co50)) (fun _ h_=>h_.1))));(case side6=>exact (Kd.R_reads' HO_149002.out).2.1);(case side7=>refine (Kd.R_reads' (e:=9) (base:=w.heap.size) (ok:=fun k_=>(some k_≠(.slice Ao16 t154.length co16:Value).ownBlock∧some k_≠(.slice Ao50 t169.length co50:Value).ownBlock)) (n:=t144.length) (c:=co10) ?_).2.2;exact (by (with_reducible repeat (first|apply Kd.R_alloc|apply Kd.R_drewN|apply Kd.R_drew));exact (Kd.R_mono (Kd.R_far (p:=⟨gb173,3,none⟩) (Kd.R_far (p:=⟨gb173,2,none⟩) (Kd.R_far (p:=⟨gb173,1,none⟩) (Kd.R_far (p:=⟨gb173,0,none⟩) (Kd.R_types HO_149003.out BK173.out (by decide)) (fun _ hk=>hk.2) (.string t164)) (fun _ hk=>hk.2) (.string t165)) (fun _ hk=>hk.2) (.slice Ao49 t166.length co49)) (fun _ hk=>hk.2) (.slice Ao50 t169.length co50)) (fun _ h_=>h_.1))));(case side8=>exact (Kd.R_reads' HO_149003.out).2.1);rintro e w64 ⟨rfl,hb⟩;refine ⟨_,rfl,?_⟩;have n0_:=Aside0.mk (Kd.R_below (by (with_reducible repeat (first|apply Kd.R_alloc|apply Kd.R_drewN|apply Kd.R_drew));exact (Kd.R_mono (Kd.R_far (p:=⟨gb173,3,none⟩) (Kd.R_far (p:=⟨gb173,2,none⟩) (Kd.R_far (p:=⟨gb173,1,none⟩) (Kd.R_far (p:=⟨gb173,0,none⟩) (Kd.R_types HO_149002.out BK173.out (by decide)) (fun _ hk=>hk.2) (.string t164)) (fun _ hk=>hk.2) (.string t165)) (fun _ hk=>hk.2) (.slice Ao49 t166.length co49)) (fun _ hk=>hk.2) (.slice Ao50 t169.length co50)) (fun _ h_=>h_.1))) hb);have n1_:=Aside0.mk (Kd.R_below (by (with_reducible repeat (first|apply Kd.R_alloc|apply Kd.R_drewN|apply Kd.R_drew));exact (Kd.R_mono (Kd.R_far (p:=⟨gb173,3,none⟩) (Kd.R_far (p:=⟨gb173,2,none⟩) (Kd.R_far (p:=⟨gb173,1,none⟩) (Kd.R_far (p:=⟨gb173,0,none⟩) (Kd.R_types HO_149003.out BK173.out (by decide)) (fun _ hk=>hk.2) (.string t164)) (fun _ hk=>hk.2) (.string t165)) (fun _ hk=>hk.2) (.slice Ao49 t166.length co49)) (fun _ hk=>hk.2) (.slice Ao50 t169.length co50)) (fun _ h_=>h_.1))) hb);have n2_:=Aside0.mk (Kd.R_below (by (with_reducible repeat (first|apply Kd.R_alloc|apply Kd.R_drewN|apply Kd.R_drew));exact (Kd.R_mono (Kd.R_far (p:=⟨gb173,3,none⟩) (Kd.R_far (p:=⟨gb173,2,none⟩) (Kd.R_far (p:=⟨gb173,1,none⟩) (Kd.R_far (p:=⟨gb173,0,none⟩) (Kd.R_types HO_159002.out BK173.out (by decide)) (fun _ hk=>hk.2) (.string t164)) (fun _ hk=>hk.2) (.string t165)) (fun _ hk=>hk.2) (.slice Ao49 t166.length co49)) (fun _ hk=>hk.2) (.slice Ao50 t169.length co50)) (fun _ h_=>h_.1))) hb);have n3_:=Aside0.mk (Kd.R_below (by (with_reducible repeat (first|apply Kd.R_alloc|apply Kd.R_drewN|apply Kd.R_drew));exact (Kd.R_mono (Kd.R_far (p:=⟨gb173,3,none⟩) (Kd.R_far (p:=⟨gb173,2,none⟩) (Kd.R_far (p:=⟨gb173,1,none⟩) (Kd.R_far (p:=⟨gb173,0,none⟩) (Kd.R_types HO_159003.out BK173.out (by decide)) (fun _ hk=>hk.2) (.string t164)) (fun _ hk=>hk.2) (.string t165)) (fun _ hk=>hk.2) (.slice Ao49 t166.length co49)) (fun _ hk=>hk.2) (.slice Ao50 t169.length co50)) (fun _ h_=>h_.1))) hb);have n4_:=Aside0.mk (Kd.R_below (by (with_reducible repeat (first|apply Kd.R_alloc|apply Kd.R_drewN|apply Kd.R_drew));exact (Kd.R_mono (Kd.R_far (p:=⟨gb173,3,none⟩) (Kd.R_far (p:=⟨gb173,2,none⟩) (Kd.R_far (p:=⟨gb173,1,none⟩) (Kd.R_far (p:=⟨gb173,0,none⟩) (Kd.R_types HO168.out BK173.out (by decide)) (fun _ hk=>hk.2) (.string t164)) (fun _ hk=>hk.2) (.string t165)) (fun _ hk=>hk.2) (.slice Ao49 t166.length co49)) (fun _ hk=>hk.2) (.slice Ao50 t169.length co50)) (fun _ h_=>h_.1))) hb);have n5_:=Aside0.mk (Kd.R_below (by (with_reducible repeat (first|apply Kd.R_alloc|apply Kd.R_drewN|apply Kd.R_drew));exact (Kd.R_mono (Kd.R_far (p:=⟨gb173,3,none⟩) (Kd.R_far (p:=⟨gb173,2,none⟩) (Kd.R_far (p:=⟨gb173,1,none⟩) (Kd.R_far (p:=⟨gb173,0,none⟩) (Kd.R_types HO171.out BK173.out (by decide)) (fun _ hk=>hk.2) (.string t164)) (fun _ hk=>hk.2) (.string t165)) (fun _ hk=>hk.2) (.slice Ao49 t166.length co49)) (fun _ hk=>hk.2) (.slice Ao50 t169.length co50)) (fun _ h_=>h_.1))) hb);have n6_:=Aside0.mk (blk_below (g:=gb148) (o:=.cells #[.string t139,.string t140,.slice Ao9 t141.length co9,.slice Ao10 t144.length co10] 28 (0,0)) (by (with_reducible repeat (first|refine blk_drewN ?_ _|refine blk_drew ?_|refine blk_alloc ?_ _));refine blk_far ?_ NB148_173.out _;(with_reducible repeat (first|refine blk_drewN ?_ _|refine blk_drew ?_|refine blk_alloc ?_ _));refine blk_far ?_ NB148_173.out _;(with_reducible repeat (first|refine blk_drewN ?_ _|refine blk_drew ?_|refine blk_alloc ?_ _));refine blk_far ?_ NB148_173.out _;(with_reducible repeat (first|refine blk_drewN ?_ _|refine blk_drew ?_|refine blk_alloc ?_ _));refine blk_far ?_ NB148_173.out _;(with_reducible repeat (first|refine blk_drewN ?_ _|refine blk_drew ?_|refine blk_alloc ?_ _));exact BK148.out) hb);have n7_:=Aside0.mk (blk_below (g:=gb158) (o:=.cells #[.string t149,.string t150,.slice Ao15 t151.length co15,.slice Ao16 t154.length co16] 28 (0,0)) (by (with_reducible repeat (first|refine blk_drewN ?_ _|refine blk_drew ?_|refine blk_alloc ?_ _));refine blk_far ?_ NB158_173.out _;(with_reducible repeat (first|refine blk_drewN ?_ _|refine blk_drew ?_|refine blk_alloc ?_ _));refine blk_far ?_ NB158_173.out _;(with_reducible repeat (first|refine blk_drewN ?_ _|refine blk_drew ?_|refine blk_alloc ?_ _));refine blk_far ?_ NB158_173.out _;(with_reducible repeat (first|refine blk_drewN ?_ _|refine blk_drew ?_|refine blk_alloc ?_ _));refine blk_far ?_ NB158_173.out _;(with_reducible repeat (first|refine blk_drewN ?_ _|refine blk_drew ?_|refine blk_alloc ?_ _));exact BK158.out) hb);have n8_:=Aside0.mk (blk_below (g:=gb173) (o:=.cells #[.string t164,.string t165,.slice Ao49 t166.length co49,.slice Ao50 t169.length co50] 28 (0,0)) (by (with_reducible repeat (first|refine blk_drewN ?_ _|refine blk_drew ?_|refine blk_alloc ?_ _));refine blk_put (cs:=#[.string t164,.string t165,.slice Ao49 t166.length co49,.slice none 0 0]) ?_ 3 _ rfl;(with_reducible repeat (first|refine blk_drewN ?_ _|refine blk_drew ?_|refine blk_alloc ?_ _));refine blk_put (cs:=#[.string t164,.string t165,.slice none 0 0,.slice none 0 0]) ?_ 2 _ rfl;(with_reducible repeat (first|refine blk_drewN ?_ _|refine blk_drew ?_|refine blk_alloc ?_ _));refine blk_put (cs:=#[.string t164,.string bz0,.slice none 0 0,.slice none 0 0]) ?_ 1 _ rfl;(with_reducible repeat (first|refine blk_drewN ?_ _|refine blk_drew ?_|refine blk_alloc ?_ _));refine blk_put (cs:=#[.string bz0,.string bz0,.slice none 0 0,.slice none 0 0]) ?_ 0 _ rfl;(with_reducible repeat (first|refine blk_drewN ?_ _|refine blk_drew ?_|refine blk_alloc ?_ _));exact BK173.out) hb);have n9_:=Aside0.mk (below_step (by repeat (first|(with_reducible first|exact HB.out|apply below_alloc|apply pw_below_drewN|apply below_drew1|refine below_set ?_ GE148.out|refine below_set ?_ GE158.out|refine below_set ?_ GE173.out)|exact HB.out)) hb);clear HO_149002;clear HO_149003;clear HO_159002;clear HO_159003;clear HO168;clear HO171;clear BK148;clear BK158;clear BK173;clear HB;have HO_149002:=n0_;have HO_149003:=n1_;have HO_159002:=n2_;have HO_159003:=n3_;have HO168:=n4_;have HO171:=n5_;have BK148:=n6_;have BK158:=n7_;have BK173:=n8_;have HB:=n9_;clear n0_ n1_ n2_ n3_ n4_ n5_ n6_ n7_ n8_ n9_;(try clear hb);(try clear hb2);(try clear hk);(try clear hi)))
         go_meet
         case rel=>exact ⟨_,(true),(by first|rfl|(simp;done)|(simp [*];done)),H',⟨by have:=HJ4.out;first|omega|exact Nat.le_refl _⟩,⟨by (with_reducible repeat (first|apply Kd.R_alloc|apply Kd.R_drewN|apply Kd.R_drew));exact HO_149002.out⟩,⟨by (with_reducible repeat (first|apply Kd.R_alloc|apply Kd.R_drewN|apply Kd.R_drew));exact HO_149003.out⟩,⟨by (with_reducible repeat (first|apply Kd.R_alloc|apply Kd.R_drewN|apply Kd.R_drew));exact HO_159002.out⟩,⟨by (with_reducible repeat (first|apply Kd.R_alloc|apply Kd.R_drewN|apply Kd.R_drew));exact HO_159003.out⟩,⟨by (with_reducible repeat (first|apply Kd.R_alloc|apply Kd.R_drewN|apply Kd.R_drew));exact Kd.R_mono HO168.out (fun _ hk=>⟨hk.1.2,hk.2⟩)⟩,⟨by (with_reducible repeat (first|apply Kd.R_alloc|apply Kd.R_drewN|apply Kd.R_drew));exact Kd.R_mono HO171.out (fun _ hk=>⟨hk.1.2,hk.2⟩)⟩,⟨by (with_reducible repeat (first|refine blk_drewN ?_ _|refine blk_drew ?_|refine blk_alloc ?_ _));exact BK148.out⟩,⟨by (with_reducible repeat (first|refine blk_drewN ?_ _|refine blk_drew ?_|refine blk_alloc ?_ _));exact BK158.out⟩,⟨by (with_reducible repeat (first|refine blk_drewN ?_ _|refine blk_drew ?_|refine blk_alloc ?_ _));exact BK173.out⟩,⟨by repeat (first|(with_reducible first|exact HB.out|apply below_alloc|apply pw_below_drewN|apply below_drew1|refine below_set ?_ GE148.out|refine below_set ?_ GE158.out|refine below_set ?_ GE173.out)|exact HB.out)⟩⟩
       case rest =>
        clear HC38
        try clear c1
        try clear c2
        try clear c2b0
        try clear c2b1
        try clear p2
        try clear c3
        try clear c4
        try clear c5
        try clear c6
        try clear c11
        try clear c13
        try clear c14
        try clear c15
        try clear c16
        try clear c18
        try clear c19
        try clear c23
        try clear c27
        try clear c30
        try clear c30b0
        try clear c31
        try clear c36
        try clear c36b0
        try clear c36b1
        try clear c39
        try clear c46
        try clear c47
        try clear c52
        try clear c53
        try clear c54
        try clear c56
        try clear c59
        try clear c60
        try clear c62
        try clear hcz14_0
        try clear hcz14_1
        try clear hcz14_2
        try clear hcz14_3
        try clear hcz20_0
        try clear hcz20_1
        try clear hcz20_2
        try clear hcz20_3
        try clear hcz21_0
        try clear hcz21_1
        try clear hcz21_2
        try clear hcz21_3
        try clear hcz24_0
        try clear hcz24_1
        try clear hcz24_2
        try clear hcz24_3
        try clear hcz25_0
        try clear hcz25_1
        try clear hcz25_2
        try clear hcz25_3
        try clear hcz32_0
        try clear hcz32_1
        try clear hcz32_2
        try clear hcz32_3
        try clear hcz34_0
        try clear hcz34_1
        try clear hcz34_2
        try clear hcz34_3
        try clear hcz40_0
        try clear hcz40_1
        try clear hcz40_2
        try clear hcz40_3
        try clear hcz42_0
        try clear hcz42_1
        try clear hcz42_2
        try clear hcz42_3
        try clear hcz48_0
        try clear hcz48_1
        try clear hcz48_2
        try clear hcz48_3
        try clear hcz55_0
        try clear hcz55_1
        try clear hcz55_2
        try clear hcz55_3
        try clear hcz57_0
        try clear hcz57_1
        try clear hcz57_2
        try clear hcz57_3
        try clear hcz61_0
        try clear hcz61_1
        try clear hcz61_2
        try clear hcz61_3
        try clear hcz63_0
        try clear hcz63_1
        try clear hcz63_2
        try clear hcz63_3
        try clear hcz8_0
        try clear hcz8_1
        try clear hcz8_2
        try clear hcz8_3
        try clear hfz14_0
        try clear hfz14_1
        try clear hfz14_2
        try clear hfz14_3
        try clear hfz20_0
        try clear hfz20_1
        try clear hfz20_2
        try clear hfz20_3
        try clear hfz21_0
        try clear hfz21_1
        try clear hfz21_2
        try clear hfz21_3
        try clear hfz24_0
        try clear hfz24_1
        try clear hfz24_2
        try clear hfz24_3
        try clear hfz25_0
        try clear hfz25_1
        try clear hfz25_2
        try clear hfz25_3
        try clear hfz32_0
        try clear hfz32_1
        try clear hfz32_2
        try clear hfz32_3
        try clear hfz34_0
        try clear hfz34_1
        try clear hfz34_2
        try clear hfz34_3
        try clear hfz40_0
        try clear hfz40_1
        try clear hfz40_2
        try clear hfz40_3
        try clear hfz42_0
        try clear hfz42_1
        try clear hfz42_2
        try clear hfz42_3
        try clear hfz48_0
        try clear hfz48_1
        try clear hfz48_2
        try clear hfz48_3
        try clear hfz55_0
        try clear hfz55_1
        try clear hfz55_2
        try clear hfz55_3
        try clear hfz57_0
        try clear hfz57_1
        try clear hfz57_2
        try clear hfz57_3
        try clear hfz61_0
        try clear hfz61_1
        try clear hfz61_2
        try clear hfz61_3
        try clear hfz63_0
        try clear hfz63_1
        try clear hfz63_2
        try clear hfz63_3
        try clear hfz8_0
        try clear hfz8_1
        try clear hfz8_2
        try clear hfz8_3
        try clear p2
        obtain ⟨kq,x57_37,rfl,HA,HJ37,HO_149002,HO_149003,HO_159002,HO_159003,HO_174002,HO_174003,BK148,BK158,BK173,HB⟩:=hcut
        have hl159002_37:=(Kd.R_reads' HO_159002.out).1
        rw [hl159002_37] at HO_159002
        (try simp only [hl159002_37])
        (try simp only [hl159002_37] at BK148)
        (try simp only [hl159002_37] at BK158)
        (try simp only [hl159002_37] at BK173)
        (try simp only [hl159002_37] at HO_149002)
        (try simp only [hl159002_37] at HO_149003)
        (try simp only [hl159002_37] at HO_159003)
        (try simp only [hl159002_37] at HO_174002)
        (try simp only [hl159002_37] at HO_174003)
        have hl159003_37:=(Kd.R_reads' HO_159003.out).1
        rw [hl159003_37] at HO_159003
        (try simp only [hl159003_37])
        (try simp only [hl159003_37] at BK148)
        (try simp only [hl159003_37] at BK158)
        (try simp only [hl159003_37] at BK173)
        (try simp only [hl159003_37] at HO_149002)
        (try simp only [hl159003_37] at HO_149003)
        (try simp only [hl159003_37] at HO_159002)
        (try simp only [hl159003_37] at HO_174002)
        (try simp only [hl159003_37] at HO_174003)
        cases kq with
        | zero=>exact absurd HA.out (by simp [laws_FnExactMailGet.j1])
        | succ kj37 =>
         have H:=HA.out
         clear HA
         simp only [laws_FnExactMailGet.j1] at H
         by_cases c65:x57_37=true
         ·subst c65
          have H1:(some false)=some r:=by rw [if_pos rfl] at H;exact H
          clear H
          have H:=H1
          clear H1
          obtain rfl:=Option.some.inj H
          go_wp2
          go_ret
          exact ⟨by first|rfl|(simp [errW_none,errW_some]<;>rfl)|(simp [*,errW_none,errW_some]<;>rfl),by repeat (first|(with_reducible first|exact HB.out|apply below_alloc|apply pw_below_drewN|apply below_drew1|refine below_set ?_ GE148.out|refine below_set ?_ GE158.out|refine below_set ?_ GE173.out)|exact HB.out)⟩
         ·replace c65:=Bool.eq_false_iff.mpr c65
          subst c65
          have H1:((laws_heldMail.f kj37 t149 t150 t161 t162 1).bind fun t175=>(if t175 < 0 then (some false) else (if t175=t160 then (some true) else (some false))))=some r:=by rw [if_neg (show ¬ (false=true) by decide)] at H;exact H
          clear H
          have H:=H1
          clear H1
          replace H:=Option.bind_eq_some_iff.mp H
          obtain ⟨t175,A660,H⟩:=H
          replace H:(if t175 < 0 then (some false) else (if t175=t160 then (some true) else (some false)))=some r:=H
          have A66:=Aside0.mk A660
          clear A660
          by_cases c67:t175 < 0
          ·rw [if_pos c67] at H
           have c67b0:decide (t175 < 0)=true:=decide_eq_true c67
           clear c67
           obtain rfl:=Option.some.inj H
           have hnb68:=NB158_148.out
           have hnc68:=NB148_158.out
           have hnb69:=NB158_173.out
           have hnc69:=NB173_158.out
           have hcz70_0:wc.cell? ⟨gb158,0,none⟩=some (.string t149):=(blk_cell BK158.out 0).trans rfl
           have hcz70_1:wc.cell? ⟨gb158,1,none⟩=some (.string t150):=(blk_cell BK158.out 1).trans rfl
           have hcz70_2:wc.cell? ⟨gb158,2,none⟩=some (.slice Ao15 t161.length co15):=(blk_cell BK158.out 2).trans rfl
           have hcz70_3:wc.cell? ⟨gb158,3,none⟩=some (.slice Ao16 t162.length co16):=(blk_cell BK158.out 3).trans rfl
           have hfz70_0:=blk_frozen BK158.out 0
           have hfz70_1:=blk_frozen BK158.out 1
           have hfz70_2:=blk_frozen BK158.out 2
           have hfz70_3:=blk_frozen BK158.out 3
           go_wp2_with (first|((with_reducible refine gate_callee (f:=16) rfl ?_);refine goesL_ (some 60) rfl rfl Tryz.func16 (by kernel_rfl) rfl #[.agg #[.string t149,.string t150,.slice Ao15 t161.length co15,.slice Ao16 t162.length co16],.int .i64 1] rfl (by (try simp only [List.map_toArray,List.map_cons,List.map_nil]);first|done|rfl|(simp only [List.length_drop,List.length_take];rfl)) ?_;(with_reducible refine (laws_heldMail.calls kj37 t149 t150 _ _ t161 _ _ t162 1 t175 _ ?side1 ?side2 ?side3 ?side4 A66.out).mono ?_);(case side1=>repeat (first|exact (Kd.R_reads' HO_159002.out).2.2|(with_reducible refine Kd.C_alloc ?_ _)|(with_reducible refine Kd.C_drewN ?_ _)|(with_reducible refine Kd.C_drew ?_)));(case side2=>exact (Kd.R_reads' HO_159002.out).2.1);(case side3=>repeat (first|exact (Kd.R_reads' HO_159003.out).2.2|(with_reducible refine Kd.C_alloc ?_ _)|(with_reducible refine Kd.C_drewN ?_ _)|(with_reducible refine Kd.C_drew ?_)));(case side4=>exact (Kd.R_reads' HO_159003.out).2.1);rintro e w71 ⟨rfl,hb⟩;refine ⟨_,rfl,?_⟩;have n0_:=Aside0.mk (Kd.R_below (by (with_reducible repeat (first|apply Kd.R_alloc|apply Kd.R_drewN|apply Kd.R_drew));exact HO_149002.out) hb);have n1_:=Aside0.mk (Kd.R_below (by (with_reducible repeat (first|apply Kd.R_alloc|apply Kd.R_drewN|apply Kd.R_drew));exact HO_149003.out) hb);have n2_:=Aside0.mk (Kd.R_below (by (with_reducible repeat (first|apply Kd.R_alloc|apply Kd.R_drewN|apply Kd.R_drew));exact HO_159002.out) hb);have n3_:=Aside0.mk (Kd.R_below (by (with_reducible repeat (first|apply Kd.R_alloc|apply Kd.R_drewN|apply Kd.R_drew));exact HO_159003.out) hb);have n4_:=Aside0.mk (Kd.R_below (by (with_reducible repeat (first|apply Kd.R_alloc|apply Kd.R_drewN|apply Kd.R_drew));exact HO_174002.out) hb);have n5_:=Aside0.mk (Kd.R_below (by (with_reducible repeat (first|apply Kd.R_alloc|apply Kd.R_drewN|apply Kd.R_drew));exact HO_174003.out) hb);have n6_:=Aside0.mk (blk_below (g:=gb148) (o:=.cells #[.string t139,.string t140,.slice Ao9 t141.length co9,.slice Ao10 t144.length co10] 28 (0,0)) (by (with_reducible repeat (first|refine blk_drewN ?_ _|refine blk_drew ?_|refine blk_alloc ?_ _));exact BK148.out) hb);have n7_:=Aside0.mk (blk_below (g:=gb158) (o:=.cells #[.string t149,.string t150,.slice Ao15 t161.length co15,.slice Ao16 t162.length co16] 28 (0,0)) (by (with_reducible repeat (first|refine blk_drewN ?_ _|refine blk_drew ?_|refine blk_alloc ?_ _));exact BK158.out) hb);have n8_:=Aside0.mk (blk_below (g:=gb173) (o:=.cells #[.string t164,.string t165,.slice Ao49 t166.length co49,.slice Ao50 t169.length co50] 28 (0,0)) (by (with_reducible repeat (first|refine blk_drewN ?_ _|refine blk_drew ?_|refine blk_alloc ?_ _));exact BK173.out) hb);have n9_:=Aside0.mk (below_step (by repeat (first|(with_reducible first|exact HB.out|apply below_alloc|apply pw_below_drewN|apply below_drew1|refine below_set ?_ GE148.out|refine below_set ?_ GE158.out|refine below_set ?_ GE173.out)|exact HB.out)) hb);clear HO_149002;clear HO_149003;clear HO_159002;clear HO_159003;clear HO_174002;clear HO_174003;clear BK148;clear BK158;clear BK173;clear HB;have HO_149002:=n0_;have HO_149003:=n1_;have HO_159002:=n2_;have HO_159003:=n3_;have HO_174002:=n4_;have HO_174003:=n5_;have BK148:=n6_;have BK158:=n7_;have BK173:=n8_;have HB:=n9_;clear n0_ n1_ n2_ n3_ n4_ n5_ n6_ n7_ n8_ n9_;(try clear hb);(try clear hb2);(try clear hk);(try clear hi)))
           go_ret
           exact ⟨by first|rfl|(simp [errW_none,errW_some]<;>rfl)|(simp [*,errW_none,errW_some]<;>rfl),by repeat (first|(with_reducible first|exact HB.out|apply below_alloc|apply pw_below_drewN|apply below_drew1|refine below_set ?_ GE148.out|refine below_set ?_ GE158.out|refine below_set ?_ GE173.out)|exact HB.out)⟩
          ·rw [if_neg c67] at H
           have c67b0:decide (t175 < 0)=false:=decide_eq_false c67
           clear c67
           by_cases c72:t175=t160
           ·rw [if_pos c72] at H
            have c72b0:(t175==t160)=true:=beq_iff_eq.mpr c72
            have c72b1:(t175 != t160)=false:=bne_eq_false_iff_eq.mpr c72
            clear c72
            obtain rfl:=Option.some.inj H
            have hnb73:=NB158_148.out
            have hnc73:=NB148_158.out
            have hnb74:=NB158_173.out
            have hnc74:=NB173_158.out
            have hcz75_0:wc.cell? ⟨gb158,0,none⟩=some (.string t149):=(blk_cell BK158.out 0).trans rfl
            have hcz75_1:wc.cell? ⟨gb158,1,none⟩=some (.string t150):=(blk_cell BK158.out 1).trans rfl
            have hcz75_2:wc.cell? ⟨gb158,2,none⟩=some (.slice Ao15 t161.length co15):=(blk_cell BK158.out 2).trans rfl
            have hcz75_3:wc.cell? ⟨gb158,3,none⟩=some (.slice Ao16 t162.length co16):=(blk_cell BK158.out 3).trans rfl
            have hfz75_0:=blk_frozen BK158.out 0
            have hfz75_1:=blk_frozen BK158.out 1
            have hfz75_2:=blk_frozen BK158.out 2
            have hfz75_3:=blk_frozen BK158.out 3
            go_wp2_with (first|((with_reducible refine gate_callee (f:=16) rfl ?_);refine goesL_ (some 60) rfl rfl Tryz.func16 (by kernel_rfl) rfl #[.agg #[.string t149,.string t150,.slice Ao15 t161.length co15,.slice Ao16 t162.length co16],.int .i64 1] rfl (by (try simp only [List.map_toArray,List.map_cons,List.map_nil]);first|done|rfl|(simp only [List.length_drop,List.length_take];rfl)) ?_;(with_reducible refine (laws_heldMail.calls kj37 t149 t150 _ _ t161 _ _ t162 1 t175 _ ?side1 ?side2 ?side3 ?side4 A66.out).mono ?_);(case side1=>repeat (first|exact (Kd.R_reads' HO_159002.out).2.2|(with_reducible refine Kd.C_alloc ?_ _)|(with_reducible refine Kd.C_drewN ?_ _)|(with_reducible refine Kd.C_drew ?_)));(case side2=>exact (Kd.R_reads' HO_159002.out).2.1);(case side3=>repeat (first|exact (Kd.R_reads' HO_159003.out).2.2|(with_reducible refine Kd.C_alloc ?_ _)|(with_reducible refine Kd.C_drewN ?_ _)|(with_reducible refine Kd.C_drew ?_)));(case side4=>exact (Kd.R_reads' HO_159003.out).2.1);rintro e w76 ⟨rfl,hb⟩;refine ⟨_,rfl,?_⟩;have n0_:=Aside0.mk (Kd.R_below (by (with_reducible repeat (first|apply Kd.R_alloc|apply Kd.R_drewN|apply Kd.R_drew));exact HO_149002.out) hb);have n1_:=Aside0.mk (Kd.R_below (by (with_reducible repeat (first|apply Kd.R_alloc|apply Kd.R_drewN|apply Kd.R_drew));exact HO_149003.out) hb);have n2_:=Aside0.mk (Kd.R_below (by (with_reducible repeat (first|apply Kd.R_alloc|apply Kd.R_drewN|apply Kd.R_drew));exact HO_159002.out) hb);have n3_:=Aside0.mk (Kd.R_below (by (with_reducible repeat (first|apply Kd.R_alloc|apply Kd.R_drewN|apply Kd.R_drew));exact HO_159003.out) hb);have n4_:=Aside0.mk (Kd.R_below (by (with_reducible repeat (first|apply Kd.R_alloc|apply Kd.R_drewN|apply Kd.R_drew));exact HO_174002.out) hb);have n5_:=Aside0.mk (Kd.R_below (by (with_reducible repeat (first|apply Kd.R_alloc|apply Kd.R_drewN|apply Kd.R_drew));exact HO_174003.out) hb);have n6_:=Aside0.mk (blk_below (g:=gb148) (o:=.cells #[.string t139,.string t140,.slice Ao9 t141.length co9,.slice Ao10 t144.length co10] 28 (0,0)) (by (with_reducible repeat (first|refine blk_drewN ?_ _|refine blk_drew ?_|refine blk_alloc ?_ _));exact BK148.out) hb);have n7_:=Aside0.mk (blk_below (g:=gb158) (o:=.cells #[.string t149,.string t150,.slice Ao15 t161.length co15,.slice Ao16 t162.length co16] 28 (0,0)) (by (with_reducible repeat (first|refine blk_drewN ?_ _|refine blk_drew ?_|refine blk_alloc ?_ _));exact BK158.out) hb);have n8_:=Aside0.mk (blk_below (g:=gb173) (o:=.cells #[.string t164,.string t165,.slice Ao49 t166.length co49,.slice Ao50 t169.length co50] 28 (0,0)) (by (with_reducible repeat (first|refine blk_drewN ?_ _|refine blk_drew ?_|refine blk_alloc ?_ _));exact BK173.out) hb);have n9_:=Aside0.mk (below_step (by repeat (first|(with_reducible first|exact HB.out|apply below_alloc|apply pw_below_drewN|apply below_drew1|refine below_set ?_ GE148.out|refine below_set ?_ GE158.out|refine below_set ?_ GE173.out)|exact HB.out)) hb);clear HO_149002;clear HO_149003;clear HO_159002;clear HO_159003;clear HO_174002;clear HO_174003;clear BK148;clear BK158;clear BK173;clear HB;have HO_149002:=n0_;have HO_149003:=n1_;have HO_159002:=n2_;have HO_159003:=n3_;have HO_174002:=n4_;have HO_174003:=n5_;have BK148:=n6_;have BK158:=n7_;have BK173:=n8_;have HB:=n9_;clear n0_ n1_ n2_ n3_ n4_ n5_ n6_ n7_ n8_ n9_;(try clear hb);(try clear hb2);(try clear hk);(try clear hi)))
            go_ret
            exact ⟨by first|rfl|(simp [errW_none,errW_some]<;>rfl)|(simp [*,errW_none,errW_some]<;>rfl),by repeat (first|(with_reducible first|exact HB.out|apply below_alloc|apply pw_below_drewN|apply below_drew1|refine below_set ?_ GE148.out|refine below_set ?_ GE158.out|refine below_set ?_ GE173.out)|exact HB.out)⟩
           ·rw [if_neg c72] at H
            have c72b0:(t175==t160)=false:=beq_eq_false_iff_ne.mpr c72
            have c72b1:(t175 != t160)=true:=bne_iff_ne.mpr c72
            obtain rfl:=Option.some.inj H
            have hnb77:=NB158_148.out
            have hnc77:=NB148_158.out
            have hnb78:=NB158_173.out
            have hnc78:=NB173_158.out
            have hcz79_0:wc.cell? ⟨gb158,0,none⟩=some (.string t149):=(blk_cell BK158.out 0).trans rfl
            have hcz79_1:wc.cell? ⟨gb158,1,none⟩=some (.string t150):=(blk_cell BK158.out 1).trans rfl
            have hcz79_2:wc.cell? ⟨gb158,2,none⟩=some (.slice Ao15 t161.length co15):=(blk_cell BK158.out 2).trans rfl
            have hcz79_3:wc.cell? ⟨gb158,3,none⟩=some (.slice Ao16 t162.length co16):=(blk_cell BK158.out 3).trans rfl
            have hfz79_0:=blk_frozen BK158.out 0
            have hfz79_1:=blk_frozen BK158.out 1
            have hfz79_2:=blk_frozen BK158.out 2
            have hfz79_3:=blk_frozen BK158.out 3
            go_wp2_with (first|((with_reducible refine gate_callee (f:=16) rfl ?_);refine goesL_ (some 60) rfl rfl Tryz.func16 (by kernel_rfl) rfl #[.agg #[.string t149,.string t150,.slice Ao15 t161.length co15,.slice Ao16 t162.length co16],.int .i64 1] rfl (by (try simp only [List.map_toArray,List.map_cons,List.map_nil]);first|done|rfl|(simp only [List.length_drop,List.length_take];rfl)) ?_;(with_reducible refine (laws_heldMail.calls kj37 t149 t150 _ _ t161 _ _ t162 1 t175 _ ?side1 ?side2 ?side3 ?side4 A66.out).mono ?_);(case side1=>repeat (first|exact (Kd.R_reads' HO_159002.out).2.2|(with_reducible refine Kd.C_alloc ?_ _)|(with_reducible refine Kd.C_drewN ?_ _)|(with_reducible refine Kd.C_drew ?_)));(case side2=>exact (Kd.R_reads' HO_159002.out).2.1);(case side3=>repeat (first|exact (Kd.R_reads' HO_159003.out).2.2|(with_reducible refine Kd.C_alloc ?_ _)|(with_reducible refine Kd.C_drewN ?_ _)|(with_reducible refine Kd.C_drew ?_)));(case side4=>exact (Kd.R_reads' HO_159003.out).2.1);rintro e w80 ⟨rfl,hb⟩;refine ⟨_,rfl,?_⟩;have n0_:=Aside0.mk (Kd.R_below (by (with_reducible repeat (first|apply Kd.R_alloc|apply Kd.R_drewN|apply Kd.R_drew));exact HO_149002.out) hb);have n1_:=Aside0.mk (Kd.R_below (by (with_reducible repeat (first|apply Kd.R_alloc|apply Kd.R_drewN|apply Kd.R_drew));exact HO_149003.out) hb);have n2_:=Aside0.mk (Kd.R_below (by (with_reducible repeat (first|apply Kd.R_alloc|apply Kd.R_drewN|apply Kd.R_drew));exact HO_159002.out) hb);have n3_:=Aside0.mk (Kd.R_below (by (with_reducible repeat (first|apply Kd.R_alloc|apply Kd.R_drewN|apply Kd.R_drew));exact HO_159003.out) hb);have n4_:=Aside0.mk (Kd.R_below (by (with_reducible repeat (first|apply Kd.R_alloc|apply Kd.R_drewN|apply Kd.R_drew));exact HO_174002.out) hb);have n5_:=Aside0.mk (Kd.R_below (by (with_reducible repeat (first|apply Kd.R_alloc|apply Kd.R_drewN|apply Kd.R_drew));exact HO_174003.out) hb);have n6_:=Aside0.mk (blk_below (g:=gb148) (o:=.cells #[.string t139,.string t140,.slice Ao9 t141.length co9,.slice Ao10 t144.length co10] 28 (0,0)) (by (with_reducible repeat (first|refine blk_drewN ?_ _|refine blk_drew ?_|refine blk_alloc ?_ _));exact BK148.out) hb);have n7_:=Aside0.mk (blk_below (g:=gb158) (o:=.cells #[.string t149,.string t150,.slice Ao15 t161.length co15,.slice Ao16 t162.length co16] 28 (0,0)) (by (with_reducible repeat (first|refine blk_drewN ?_ _|refine blk_drew ?_|refine blk_alloc ?_ _));exact BK158.out) hb);have n8_:=Aside0.mk (blk_below (g:=gb173) (o:=.cells #[.string t164,.string t165,.slice Ao49 t166.length co49,.slice Ao50 t169.length co50] 28 (0,0)) (by (with_reducible repeat (first|refine blk_drewN ?_ _|refine blk_drew ?_|refine blk_alloc ?_ _));exact BK173.out) hb);have n9_:=Aside0.mk (below_step (by repeat (first|(with_reducible first|exact HB.out|apply below_alloc|apply pw_below_drewN|apply below_drew1|refine below_set ?_ GE148.out|refine below_set ?_ GE158.out|refine below_set ?_ GE173.out)|exact HB.out)) hb);clear HO_149002;clear HO_149003;clear HO_159002;clear HO_159003;clear HO_174002;clear HO_174003;clear BK148;clear BK158;clear BK173;clear HB;have HO_149002:=n0_;have HO_149003:=n1_;have HO_159002:=n2_;have HO_159003:=n3_;have HO_174002:=n4_;have HO_174003:=n5_;have BK148:=n6_;have BK158:=n7_;have BK173:=n8_;have HB:=n9_;clear n0_ n1_ n2_ n3_ n4_ n5_ n6_ n7_ n8_ n9_;(try clear hb);(try clear hb2);(try clear hk);(try clear hi)))
            go_ret
            exact ⟨by first|rfl|(simp [errW_none,errW_some]<;>rfl)|(simp [*,errW_none,errW_some]<;>rfl),by repeat (first|(with_reducible first|exact HB.out|apply below_alloc|apply pw_below_drewN|apply below_drew1|refine below_set ?_ GE148.out|refine below_set ?_ GE158.out|refine below_set ?_ GE173.out)|exact HB.out)⟩
      ·rw [if_neg c36] at H
       have c36b0:(t163==t160)=false:=beq_eq_false_iff_ne.mpr c36
       have c36b1:(t163 != t160)=true:=bne_iff_ne.mpr c36
       obtain rfl:=Option.some.inj H
       have hnb81:=NB158_148.out
       have hnc81:=NB148_158.out
       have hcz82_0:wc.cell? ⟨gb158,0,none⟩=some (.string t149):=(blk_cell BK158.out 0).trans rfl
       have hcz82_1:wc.cell? ⟨gb158,1,none⟩=some (.string t150):=(blk_cell BK158.out 1).trans rfl
       have hcz82_2:wc.cell? ⟨gb158,2,none⟩=some (.slice Ao15 t151.length co15):=(blk_cell BK158.out 2).trans rfl
       have hcz82_3:wc.cell? ⟨gb158,3,none⟩=some (.slice Ao16 t154.length co16):=(blk_cell BK158.out 3).trans rfl
       have hfz82_0:=blk_frozen BK158.out 0
       have hfz82_1:=blk_frozen BK158.out 1
       have hfz82_2:=blk_frozen BK158.out 2
       have hfz82_3:=blk_frozen BK158.out 3
       go_wp2_with (first|((with_reducible refine gate_callee (f:=15) rfl ?_);refine goesL_ (some 35) rfl rfl Tryz.func15 (by kernel_rfl) rfl #[.agg #[.string t149,.string t150,.slice Ao15 t151.length co15,.slice Ao16 t154.length co16],.int .i64 1] rfl (by (try simp only [List.map_toArray,List.map_cons,List.map_nil]);first|done|rfl|(simp only [List.length_drop,List.length_take];rfl)) ?_;(with_reducible refine (laws_markMail.calls kj4 t149 t150 (fun k_=>some k_=(.slice Ao15 t151.length co15:Value).ownBlock) (.slice Ao15 t151.length co15) t151 (fun k_=>some k_=(.slice Ao16 t154.length co16:Value).ownBlock) (.slice Ao16 t154.length co16) t154 1 t160 t161 t162 w _ ?side1 ?side2 ?side3 A28.out).mono ?_);(case side1=>repeat (first|(with_reducible first|exact HB.out|apply below_alloc|apply pw_below_drewN|apply below_drew1|refine below_set ?_ GE148.out|refine below_set ?_ GE158.out)|exact HB.out));(case side2=>exact Kd.R_tight rfl HO_159002.out);(case side3=>exact Kd.R_tight rfl HO_159003.out);rintro e w83 ⟨rfl,hy0,hy1,hb,hkp⟩;refine ⟨_,rfl,?_⟩;have n0_:=Aside0.mk (Kd.R_mono (ok':=fun k_=>some k_≠(.slice Ao15 t151.length co15:Value).ownBlock) (Kd.R_keptB ((Kd.R_apart' HO_149002.out (Kd.R_typed HO_159003.out) (by decide))) hkp (fun k_ hk_ hs_=>Or.elim hs_ (fun e_=>(hk_.1) e_) (fun e_=>(hk_.2) e_))) (fun k_ hk_=>hk_.1.1));have n1_:=Aside0.mk (Kd.R_mono (ok':=fun k_=>some k_≠(.slice Ao16 t154.length co16:Value).ownBlock) (Kd.R_keptB ((Kd.R_apart' HO_149003.out (Kd.R_typed HO_159002.out) (by decide))) hkp (fun k_ hk_ hs_=>Or.elim hs_ (fun e_=>(hk_.2) e_) (fun e_=>(hk_.1) e_))) (fun k_ hk_=>hk_.1.1));have n2_:=Aside0.mk (Kd.R_reok rfl hy0 (fun k_ e_=>HO_159002.out.1 k_ e_));have n3_:=Aside0.mk (Kd.R_reok rfl hy1 (fun k_ e_=>HO_159003.out.1 k_ e_));have n4_:=Aside0.mk (blk_kept (by (with_reducible repeat (first|refine blk_drewN ?_ _|refine blk_drew ?_|refine blk_alloc ?_ _));exact BK148.out) hkp (fun hs_=>Or.elim hs_ (fun e_=>(fun e_=>(Kd.R_ne HO_159002.out BK148.out (by decide)) e_) e_) (fun e_=>(fun e_=>(Kd.R_ne HO_159003.out BK148.out (by decide)) e_) e_)));have n5_:=Aside0.mk (blk_kept (by (with_reducible repeat (first|refine blk_drewN ?_ _|refine blk_drew ?_|refine blk_alloc ?_ _));exact BK158.out) hkp (fun hs_=>Or.elim hs_ (fun e_=>(fun e_=>(Kd.R_ne HO_159002.out BK158.out (by decide)) e_) e_) (fun e_=>(fun e_=>(Kd.R_ne HO_159003.out BK158.out (by decide)) e_) e_)));have n6_:=Aside0.mk (hb);clear HO_149002;clear HO_149003;clear HO_159002;clear HO_159003;clear BK148;clear BK158;clear HB;have HO_149002:=n0_;have HO_149003:=n1_;have HO_159002:=n2_;have HO_159003:=n3_;have BK148:=n4_;have BK158:=n5_;have HB:=n6_;clear n0_ n1_ n2_ n3_ n4_ n5_ n6_;(try clear hb);(try clear hkp);(try clear hy0);(try clear hy1);have hcz84_0:w83.cell? ⟨gb158,0,none⟩=some (.string t149):=(blk_cell BK158.out 0).trans rfl;have hcz84_1:w83.cell? ⟨gb158,1,none⟩=some (.string t150):=(blk_cell BK158.out 1).trans rfl;have hcz84_2:w83.cell? ⟨gb158,2,none⟩=some (.slice Ao15 t151.length co15):=(blk_cell BK158.out 2).trans rfl;have hcz84_3:w83.cell? ⟨gb158,3,none⟩=some (.slice Ao16 t154.length co16):=(blk_cell BK158.out 3).trans rfl;have hfz84_0:=blk_frozen BK158.out 0;have hfz84_1:=blk_frozen BK158.out 1;have hfz84_2:=blk_frozen BK158.out 2;have hfz84_3:=blk_frozen BK158.out 3)|((with_reducible refine gate_callee (f:=16) rfl ?_);refine goesL_ (some 38) rfl rfl Tryz.func16 (by kernel_rfl) rfl #[.agg #[.string t149,.string t150,.slice Ao15 t161.length co15,.slice Ao16 t162.length co16],.int .i64 1] rfl (by (try simp only [List.map_toArray,List.map_cons,List.map_nil]);first|done|(rw [show t161.length=t151.length from (Kd.R_reads' HO_159002.out).1.symm,show t162.length=t154.length from (Kd.R_reads' HO_159003.out).1.symm]<;>rfl)|rfl|(simp only [List.length_drop,List.length_take];rfl)) ?_;(with_reducible refine (laws_heldMail.calls kj4 t149 t150 _ _ t161 _ _ t162 1 t163 _ ?side1 ?side2 ?side3 ?side4 A29.out).mono ?_);(case side1=>repeat (first|exact (Kd.R_reads' HO_159002.out).2.2|(with_reducible refine Kd.C_alloc ?_ _)|(with_reducible refine Kd.C_drewN ?_ _)|(with_reducible refine Kd.C_drew ?_)));(case side2=>rw [show t161.length=t151.length from (Kd.R_reads' HO_159002.out).1.symm];exact (Kd.R_reads' HO_159002.out).2.1);(case side3=>repeat (first|exact (Kd.R_reads' HO_159003.out).2.2|(with_reducible refine Kd.C_alloc ?_ _)|(with_reducible refine Kd.C_drewN ?_ _)|(with_reducible refine Kd.C_drew ?_)));(case side4=>rw [show t162.length=t154.length from (Kd.R_reads' HO_159003.out).1.symm];exact (Kd.R_reads' HO_159003.out).2.1);rintro e w85 ⟨rfl,hb⟩;refine ⟨_,rfl,?_⟩;have n0_:=Aside0.mk (Kd.R_below (by (with_reducible repeat (first|apply Kd.R_alloc|apply Kd.R_drewN|apply Kd.R_drew));exact HO_149002.out) hb);have n1_:=Aside0.mk (Kd.R_below (by (with_reducible repeat (first|apply Kd.R_alloc|apply Kd.R_drewN|apply Kd.R_drew));exact HO_149003.out) hb);have n2_:=Aside0.mk (Kd.R_below (by (with_reducible repeat (first|apply Kd.R_alloc|apply Kd.R_drewN|apply Kd.R_drew));exact HO_159002.out) hb);have n3_:=Aside0.mk (Kd.R_below (by (with_reducible repeat (first|apply Kd.R_alloc|apply Kd.R_drewN|apply Kd.R_drew));exact HO_159003.out) hb);have n4_:=Aside0.mk (blk_below (g:=gb148) (o:=.cells #[.string t139,.string t140,.slice Ao9 t141.length co9,.slice Ao10 t144.length co10] 28 (0,0)) (by (with_reducible repeat (first|refine blk_drewN ?_ _|refine blk_drew ?_|refine blk_alloc ?_ _));exact BK148.out) hb);have n5_:=Aside0.mk (blk_below (g:=gb158) (o:=.cells #[.string t149,.string t150,.slice Ao15 t151.length co15,.slice Ao16 t154.length co16] 28 (0,0)) (by (with_reducible repeat (first|refine blk_drewN ?_ _|refine blk_drew ?_|refine blk_alloc ?_ _));exact BK158.out) hb);have n6_:=Aside0.mk (below_step (by repeat (first|(with_reducible first|exact HB.out|apply below_alloc|apply pw_below_drewN|apply below_drew1|refine below_set ?_ GE148.out|refine below_set ?_ GE158.out)|exact HB.out)) hb);clear HO_149002;clear HO_149003;clear HO_159002;clear HO_159003;clear BK148;clear BK158;clear HB;have HO_149002:=n0_;have HO_149003:=n1_;have HO_159002:=n2_;have HO_159003:=n3_;have BK148:=n4_;have BK158:=n5_;have HB:=n6_;clear n0_ n1_ n2_ n3_ n4_ n5_ n6_;(try clear hb);(try clear hb2);(try clear hk);(try clear hi)))
       go_ret
       exact ⟨by first|rfl|(simp [errW_none,errW_some]<;>rfl)|(simp [*,errW_none,errW_some]<;>rfl),by repeat (first|(with_reducible first|exact HB.out|apply below_alloc|apply pw_below_drewN|apply below_drew1|refine below_set ?_ GE148.out|refine below_set ?_ GE158.out)|exact HB.out)⟩
end Go.Proofs.YthkibaldmjfmmaaGreatDoor.Q
