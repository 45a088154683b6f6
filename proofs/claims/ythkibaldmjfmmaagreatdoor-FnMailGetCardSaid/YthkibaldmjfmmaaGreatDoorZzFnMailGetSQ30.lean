/- Of a text of ours what this claim needs. -/
import Derived.Test.YthkibaldmjfmmaaGreatDoorZzFnMailGetSQ0
import Derived.Test.YthkibaldmjfmmaaGreatDoorZzFnMailGetSQ9
import Derived.Test.YthkibaldmjfmmaaGreatDoorZzFnMailGetSQ16
import Derived.Test.YthkibaldmjfmmaaGreatDoorZzFnMailGetSQ17
import Derived.Test.YthkibaldmjfmmaaGreatDoorZzFnMailGetSQ22
import Derived.Test.YthkibaldmjfmmaaGreatDoorZzFnMailGetSQ29
import Derived.Test.YthkibaldmjfmmaaGreatDoorZzFnMailGetSHSplit
namespace Go.Proofs.YthkibaldmjfmmaaGreatDoor.Q
open Go.RowKit Go.Proofs.YthkibaldmjfmmaaGreatDoorW.PrintWords Go.Proofs.YthkibaldmjfmmaaGreatDoorW.PrintLast Go.Proofs.YthkibaldmjfmmaaGreatDoorW.PrintMore
attribute [local go_sem] max2_int min2_int max_two min_two max_three min_three max_four min_four
set_option linter.unusedVariables false
set_option linter.unusedSimpArgs false
def laws_FnMailGet.j0:Nat→ByteArray→Bool→Bool→Bool→ByteArray→ByteArray→List (S24)→List ByteArray→ByteArray→ByteArray→List (S24)→List ByteArray→Option (Bool)
 | 0,_,_,_,_,_,_,_,_,_,_,_,_=>none
 | k+1,x3,x5,x7,x35,x218000,x218001,x218002,x218003,x228000,x228001,x228002,x228003=>if x35=true then (if (x5==x7)=true then ((laws_saMail.f k x218000 x218001 x218002 x218003 x228000 x228001 x228002 x228003).bind fun t229=>(some t229)) else (some false)) else ((impl_MailPut.f k x218000 x218001 x218002 x218003).bind fun t230=>(if t230.toList=x3.toList then ((impl_MailOk.f k x218000 x218001 x218002 x218003).bind fun t231=>(some t231)) else (some false)))
def laws_FnMailGet.f (k:Nat) (l0:List Int):Option (Bool):=if (l0.length:Int) > 1048576 then (some true) else ((spec_DrawMailGet.f k l0).bind fun t207=>((impl_MailGet.f k t207).bind fun bt208=>((spec_MailGet.f k t207).bind fun bt218=>(if (bt208.2.2.2.2 != bt218.2.2.2.2)=true then (laws_FnMailGet.j0 k t207 bt208.2.2.2.2 bt218.2.2.2.2 true bt208.1 bt208.2.1 bt208.2.2.1 bt208.2.2.2.1 bt218.1 bt218.2.1 bt218.2.2.1 bt218.2.2.2.1) else ((laws_saMail.f k bt208.1 bt208.2.1 bt208.2.2.1 bt208.2.2.2.1 bt218.1 bt218.2.1 bt218.2.2.1 bt218.2.2.2.1).bind fun t228=>(if t228=true then (laws_FnMailGet.j0 k t207 bt208.2.2.2.2 bt218.2.2.2.2 (!bt208.2.2.2.2) bt208.1 bt208.2.1 bt208.2.2.1 bt208.2.2.2.1 bt218.1 bt218.2.1 bt218.2.2.1 bt218.2.2.2.1) else (laws_FnMailGet.j0 k t207 bt208.2.2.2.2 bt218.2.2.2.2 true bt208.1 bt208.2.1 bt208.2.2.1 bt208.2.2.2.1 bt218.1 bt218.2.1 bt218.2.2.1 bt218.2.2.2.1)))))))
set_option maxHeartbeats 8000000 in
set_option maxRecDepth 100000 in
theorem laws_FnMailGet.calls (k:Nat) (A0:Option Addr) (c0:Nat) (l0:List Int) (r:Bool) (w:World) (hr0:Kd.C (Kd.int .u8) w A0 l0.length l0) (hc0:l0.length≤c0) (hG:GOK w) (h:laws_FnMailGet.f k l0=some r) :
 Calls Tryz.prog 5 #[.slice A0 l0.length c0] w fun e w'=>e=.returned (.bool r)∧Below w.heap.size w w':=by
 have hu28:=Tryz.underlying28
 have HR0:=Aside0.mk hr0
 have HC0:=Aside0.mk hc0
 clear hr0 hc0
 have HG:=Aside0.mk hG
 clear hG
 have HB:=Aside0.mk (Below.refl w.heap.size w)
 have H:(if (l0.length:Int) > 1048576 then (some true) else ((spec_DrawMailGet.f k l0).bind fun t207=>((impl_MailGet.f k t207).bind fun bt208=>((spec_MailGet.f k t207).bind fun bt218=>(if (bt208.2.2.2.2 != bt218.2.2.2.2)=true then (laws_FnMailGet.j0 k t207 bt208.2.2.2.2 bt218.2.2.2.2 true bt208.1 bt208.2.1 bt208.2.2.1 bt208.2.2.2.1 bt218.1 bt218.2.1 bt218.2.2.1 bt218.2.2.2.1) else ((laws_saMail.f k bt208.1 bt208.2.1 bt208.2.2.1 bt208.2.2.2.1 bt218.1 bt218.2.1 bt218.2.2.1 bt218.2.2.2.1).bind fun t228=>(if t228=true then (laws_FnMailGet.j0 k t207 bt208.2.2.2.2 bt218.2.2.2.2 (!bt208.2.2.2.2) bt208.1 bt208.2.1 bt208.2.2.1 bt208.2.2.2.1 bt218.1 bt218.2.1 bt218.2.2.1 bt218.2.2.2.1) else (laws_FnMailGet.j0 k t207 bt208.2.2.2.2 bt218.2.2.2.2 true bt208.1 bt208.2.1 bt208.2.2.1 bt208.2.2.2.1 bt218.1 bt218.2.1 bt218.2.2.1 bt218.2.2.2.1))))))))=some r:=h
 clear h
 by_cases c2:(l0.length:Int) > 1048576
 ·rw [if_pos c2] at H
  have c2b0:decide (1048576 < (l0.length:Int))=true:=decide_eq_true c2
  have c2b1:decide (1048576 < l0.length)=true:=decide_eq_true (by omega)
  clear c2
  obtain rfl:=Option.some.inj H
  go_enter Tryz.func5,Tryz.ntmps5
  go_wp2
  go_ret
  exact ⟨by first|rfl|(simp [zq11,zq12]<;>rfl)|(simp [*,zq11,zq12]<;>rfl),by repeat (first|(with_reducible first|exact HB.out|apply zq1|apply zq0|apply zq2)|exact HB.out)⟩
 ·rw [if_neg c2] at H
  have c2b0:decide (1048576 < (l0.length:Int))=false:=decide_eq_false c2
  have c2b1:decide (1048576 < l0.length)=false:=decide_eq_false (by omega)
  clear c2
  replace H:=Option.bind_eq_some_iff.mp H
  obtain ⟨t207,A30,H⟩:=H
  replace H:((impl_MailGet.f k t207).bind fun bt208=>((spec_MailGet.f k t207).bind fun bt218=>(if (bt208.2.2.2.2 != bt218.2.2.2.2)=true then (laws_FnMailGet.j0 k t207 bt208.2.2.2.2 bt218.2.2.2.2 true bt208.1 bt208.2.1 bt208.2.2.1 bt208.2.2.2.1 bt218.1 bt218.2.1 bt218.2.2.1 bt218.2.2.2.1) else ((laws_saMail.f k bt208.1 bt208.2.1 bt208.2.2.1 bt208.2.2.2.1 bt218.1 bt218.2.1 bt218.2.2.1 bt218.2.2.2.1).bind fun t228=>(if t228=true then (laws_FnMailGet.j0 k t207 bt208.2.2.2.2 bt218.2.2.2.2 (!bt208.2.2.2.2) bt208.1 bt208.2.1 bt208.2.2.1 bt208.2.2.2.1 bt218.1 bt218.2.1 bt218.2.2.1 bt218.2.2.2.1) else (laws_FnMailGet.j0 k t207 bt208.2.2.2.2 bt218.2.2.2.2 true bt208.1 bt208.2.1 bt208.2.2.1 bt208.2.2.2.1 bt218.1 bt218.2.1 bt218.2.2.1 bt218.2.2.2.1))))))=some r:=H
  have A3:=Aside0.mk A30
  clear A30
  replace H:=Option.bind_eq_some_iff.mp H
  obtain ⟨⟨t208,t209,t210,t213,t216⟩,A40,H⟩:=H
  replace H:((spec_MailGet.f k t207).bind fun bt218=>(if (t216 != bt218.2.2.2.2)=true then (laws_FnMailGet.j0 k t207 t216 bt218.2.2.2.2 true t208 t209 t210 t213 bt218.1 bt218.2.1 bt218.2.2.1 bt218.2.2.2.1) else ((laws_saMail.f k t208 t209 t210 t213 bt218.1 bt218.2.1 bt218.2.2.1 bt218.2.2.2.1).bind fun t228=>(if t228=true then (laws_FnMailGet.j0 k t207 t216 bt218.2.2.2.2 (!t216) t208 t209 t210 t213 bt218.1 bt218.2.1 bt218.2.2.1 bt218.2.2.2.1) else (laws_FnMailGet.j0 k t207 t216 bt218.2.2.2.2 true t208 t209 t210 t213 bt218.1 bt218.2.1 bt218.2.2.1 bt218.2.2.2.1)))))=some r:=H
  have A4:=Aside0.mk A40
  clear A40
  replace H:=Option.bind_eq_some_iff.mp H
  obtain ⟨⟨t218,t219,t220,t223,t226⟩,A50,H⟩:=H
  replace H:(if (t216 != t226)=true then (laws_FnMailGet.j0 k t207 t216 t226 true t208 t209 t210 t213 t218 t219 t220 t223) else ((laws_saMail.f k t208 t209 t210 t213 t218 t219 t220 t223).bind fun t228=>(if t228=true then (laws_FnMailGet.j0 k t207 t216 t226 (!t216) t208 t209 t210 t213 t218 t219 t220 t223) else (laws_FnMailGet.j0 k t207 t216 t226 true t208 t209 t210 t213 t218 t219 t220 t223))))=some r:=H
  have A5:=Aside0.mk A50
  clear A50
  have HC6:=Aside0.mk H
  clear H
  go_enter Tryz.func5,Tryz.ntmps5
  go_upto_region 6 with (first|((with_reducible refine zq14 (f:=17) rfl ?_);refine zq20 (some 12) rfl rfl Tryz.func17 (by kernel_rfl) rfl #[.slice A0 l0.length c0] rfl (by (try simp only [List.map_toArray,List.map_cons,List.map_nil]);first|done|rfl|(simp only [List.length_drop,List.length_take];rfl)) ?_;(with_reducible refine (spec_DrawMailGet.calls k _ _ l0 t207 _ ?side1 ?side2 A3.out).mono ?_);(case side1=>repeat (first|exact HR0.out|(with_reducible refine Kd.C_alloc ?_ _)|(with_reducible refine Kd.C_drewN ?_ _)|(with_reducible refine Kd.C_drew ?_)));(case side2=>exact HC0.out);rintro e w7 ⟨rfl,hb⟩;refine ⟨_,rfl,?_⟩;have n0_:=Aside0.mk (zq9 (by repeat (first|(with_reducible first|exact HB.out|apply zq1|apply zq0|apply zq2)|exact HB.out)) hb);clear HB;have HB:=n0_;clear n0_;(try clear hb);(try clear hb2);(try clear hk);(try clear hi))|((with_reducible refine zq14 (f:=11) rfl ?_);refine zq20 (some 15) rfl rfl Tryz.func11 (by kernel_rfl) rfl #[.string t207] rfl (by (try simp only [List.map_toArray,List.map_cons,List.map_nil]);first|done|rfl|(simp only [List.length_drop,List.length_take];rfl)) ?_;(with_reducible refine (impl_MailGet.calls k t207 t208 t209 t210 t213 t216 _ ?side1 A4.out).mono ?_);(case side1=>first|(with_reducible exact HG.out)|((with_reducible repeat (first|exact HG.out|apply GOK.drewN|apply GOK.drew));done)|exact GOK.below HG.out (by repeat (first|(with_reducible first|exact HB.out|apply zq1|apply zq0|apply zq2)|exact HB.out)));rintro e w8 ⟨v211,v214,rfl,ho0,ho1,hb⟩;refine ⟨_,rfl,?_⟩;have n0_:=Aside0.mk (Kd.R_lower ho0 (zq10 (by repeat (first|(with_reducible first|exact HB.out|apply zq1|apply zq0|apply zq2)|exact HB.out))));have n1_:=Aside0.mk (Kd.R_lower ho1 (zq10 (by repeat (first|(with_reducible first|exact HB.out|apply zq1|apply zq0|apply zq2)|exact HB.out))));have n2_:=Aside0.mk (zq9 (by repeat (first|(with_reducible first|exact HB.out|apply zq1|apply zq0|apply zq2)|exact HB.out)) hb);clear HB;have HO212:=n0_;have HO215:=n1_;have HB:=n2_;clear n0_ n1_ n2_;(try clear hb);(try clear hb2);(try clear hk);(try clear hi);(try clear ho0);(try clear ho1))|((with_reducible refine zq21 (N:=4) rfl ?_);refine zq22 ?hg (N:=4) ?hd (cs:=#[.string bz0,.string bz0,.slice none 0 0,.slice none 0 0]) (t:=28) ?hr ?_;(case hd=>rfl);(case hg=>rfl);(case hr=>first|(go_simp;done)|(go_simp;rfl));intro gb217 hg w9 hbox hb;have n0_:=Aside0.mk (Kd.R_below (by (with_reducible repeat (first|apply Kd.R_alloc|apply Kd.R_drewN|apply Kd.R_drew));exact HO212.out) hb);have n1_:=Aside0.mk (Kd.R_below (by (with_reducible repeat (first|apply Kd.R_alloc|apply Kd.R_drewN|apply Kd.R_drew));exact HO215.out) hb);have n2_:=Aside0.mk (zq9 (by repeat (first|(with_reducible first|exact HB.out|apply zq1|apply zq0|apply zq2)|exact HB.out)) hb);have n3_:=Aside0.mk (hbox);have n4_:=Aside0.mk ((by rw [hg];exact (zq10 (by repeat (first|(with_reducible first|exact HB.out|apply zq1|apply zq0|apply zq2)|exact HB.out))):w.heap.size≤gb217));have n5_:=Aside0.mk ((by rw [hg];exact (zq10 (by repeat (first|(with_reducible first|exact HB.out|apply zq1|apply zq0|apply zq2)|exact HB.out))):w.heap.size≤gb217));clear HO212;clear HO215;clear HB;have HO212:=n0_;have HO215:=n1_;have HB:=n2_;have BK217:=n3_;have GW217:=n4_;have GE217:=n5_;clear n0_ n1_ n2_ n3_ n4_ n5_;clear hb hbox hg;have hcz10_0:w9.cell? ⟨gb217,0,none⟩=some (.string bz0):=(zq8 BK217.out 0).trans rfl;have hcz10_1:w9.cell? ⟨gb217,1,none⟩=some (.string bz0):=(zq8 BK217.out 1).trans rfl;have hcz10_2:w9.cell? ⟨gb217,2,none⟩=some (.slice none 0 0):=(zq8 BK217.out 2).trans rfl;have hcz10_3:w9.cell? ⟨gb217,3,none⟩=some (.slice none 0 0):=(zq8 BK217.out 3).trans rfl;have hfz10_0:=zq6 BK217.out 0;have hfz10_1:=zq6 BK217.out 1;have hfz10_2:=zq6 BK217.out 2;have hfz10_3:=zq6 BK217.out 3;obtain ⟨Ao11,co11,eo11⟩:=Kd.R_slice HO212.out;subst eo11;obtain ⟨Ao12,co12,eo12⟩:=Kd.R_slice HO215.out;subst eo12)|((with_reducible refine zq14 (f:=13) rfl ?_);refine zq20 (some 20) rfl rfl Tryz.func13 (by kernel_rfl) rfl #[.string t207] rfl (by (try simp only [List.map_toArray,List.map_cons,List.map_nil]);first|done|rfl|(simp only [List.length_drop,List.length_take];rfl)) ?_;(with_reducible refine (spec_MailGet.calls k t207 t218 t219 t220 t223 t226 _ A5.out).mono ?_);rintro e w13 ⟨v221,v224,rfl,ho0,ho1,hb⟩;refine ⟨_,rfl,?_⟩;have n0_:=Aside0.mk (Kd.R_elder' (by (with_reducible repeat (first|apply Kd.R_alloc|apply Kd.R_drewN|apply Kd.R_drew));exact (Kd.R_mono (Kd.R_far (p:=⟨gb217,3,none⟩) (Kd.R_far (p:=⟨gb217,2,none⟩) (Kd.R_far (p:=⟨gb217,1,none⟩) (Kd.R_far (p:=⟨gb217,0,none⟩) (Kd.R_types HO212.out BK217.out (by decide)) (fun _ hk=>hk.2) (.string t208)) (fun _ hk=>hk.2) (.string t209)) (fun _ hk=>hk.2) (.slice Ao11 t210.length co11)) (fun _ hk=>hk.2) (.slice Ao12 t213.length co12)) (fun _ h_=>h_.1))) (Kd.R_base ho0) hb);have n1_:=Aside0.mk (Kd.R_elder' (by (with_reducible repeat (first|apply Kd.R_alloc|apply Kd.R_drewN|apply Kd.R_drew));exact (Kd.R_mono (Kd.R_far (p:=⟨gb217,3,none⟩) (Kd.R_far (p:=⟨gb217,2,none⟩) (Kd.R_far (p:=⟨gb217,1,none⟩) (Kd.R_far (p:=⟨gb217,0,none⟩) (Kd.R_types HO215.out BK217.out (by decide)) (fun _ hk=>hk.2) (.string t208)) (fun _ hk=>hk.2) (.string t209)) (fun _ hk=>hk.2) (.slice Ao11 t210.length co11)) (fun _ hk=>hk.2) (.slice Ao12 t213.length co12)) (fun _ h_=>h_.1))) (Kd.R_base ho1) hb);have n2_:=Aside0.mk (Kd.R_lower (Kd.R_new' ho0 (Kd.R_lt (by (with_reducible repeat (first|apply Kd.R_alloc|apply Kd.R_drewN|apply Kd.R_drew));exact (Kd.R_mono (Kd.R_far (p:=⟨gb217,3,none⟩) (Kd.R_far (p:=⟨gb217,2,none⟩) (Kd.R_far (p:=⟨gb217,1,none⟩) (Kd.R_far (p:=⟨gb217,0,none⟩) (Kd.R_types HO212.out BK217.out (by decide)) (fun _ hk=>hk.2) (.string t208)) (fun _ hk=>hk.2) (.string t209)) (fun _ hk=>hk.2) (.slice Ao11 t210.length co11)) (fun _ hk=>hk.2) (.slice Ao12 t213.length co12)) (fun _ h_=>h_.1))))) (zq10 (by repeat (first|(with_reducible first|exact HB.out|apply zq1|apply zq0|apply zq2|refine zq5 ?_ GE217.out)|exact HB.out))));have n3_:=Aside0.mk (Kd.R_lower (Kd.R_new' ho1 (Kd.R_lt (by (with_reducible repeat (first|apply Kd.R_alloc|apply Kd.R_drewN|apply Kd.R_drew));exact (Kd.R_mono (Kd.R_far (p:=⟨gb217,3,none⟩) (Kd.R_far (p:=⟨gb217,2,none⟩) (Kd.R_far (p:=⟨gb217,1,none⟩) (Kd.R_far (p:=⟨gb217,0,none⟩) (Kd.R_types HO215.out BK217.out (by decide)) (fun _ hk=>hk.2) (.string t208)) (fun _ hk=>hk.2) (.string t209)) (fun _ hk=>hk.2) (.slice Ao11 t210.length co11)) (fun _ hk=>hk.2) (.slice Ao12 t213.length co12)) (fun _ h_=>h_.1))))) (zq10 (by repeat (first|(with_reducible first|exact HB.out|apply zq1|apply zq0|apply zq2|refine zq5 ?_ GE217.out)|exact HB.out))));have n4_:=Aside0.mk (zq13 (g:=gb217) (o:=.cells #[.string t208,.string t209,.slice Ao11 t210.length co11,.slice Ao12 t213.length co12] 28 (0,0)) (by (with_reducible repeat (first|refine zq4 ?_ _|refine zq7 ?_|refine zq3 ?_ _));refine zq17 (cs:=#[.string t208,.string t209,.slice Ao11 t210.length co11,.slice none 0 0]) ?_ 3 _ rfl;(with_reducible repeat (first|refine zq4 ?_ _|refine zq7 ?_|refine zq3 ?_ _));refine zq17 (cs:=#[.string t208,.string t209,.slice none 0 0,.slice none 0 0]) ?_ 2 _ rfl;(with_reducible repeat (first|refine zq4 ?_ _|refine zq7 ?_|refine zq3 ?_ _));refine zq17 (cs:=#[.string t208,.string bz0,.slice none 0 0,.slice none 0 0]) ?_ 1 _ rfl;(with_reducible repeat (first|refine zq4 ?_ _|refine zq7 ?_|refine zq3 ?_ _));refine zq17 (cs:=#[.string bz0,.string bz0,.slice none 0 0,.slice none 0 0]) ?_ 0 _ rfl;(with_reducible repeat (first|refine zq4 ?_ _|refine zq7 ?_|refine zq3 ?_ _));exact BK217.out) hb);have n5_:=Aside0.mk (zq9 (by repeat (first|(with_reducible first|exact HB.out|apply zq1|apply zq0|apply zq2|refine zq5 ?_ GE217.out)|exact HB.out)) hb);clear HO212;clear HO215;clear BK217;clear HB;have HO212:=n0_;have HO215:=n1_;have HO222:=n2_;have HO225:=n3_;have BK217:=n4_;have HB:=n5_;clear n0_ n1_ n2_ n3_ n4_ n5_;(try clear hb);(try clear hb2);(try clear hk);(try clear hi);(try clear ho0);(try clear ho1))|((with_reducible refine zq21 (N:=6) rfl ?_);refine zq22 ?hg (N:=6) ?hd (cs:=#[.string bz0,.string bz0,.slice none 0 0,.slice none 0 0]) (t:=28) ?hr ?_;(case hd=>rfl);(case hg=>rfl);(case hr=>first|(go_simp;done)|(go_simp;rfl));intro gb227 hg w14 hbox hb;have n0_:=Aside0.mk (Kd.R_below (by (with_reducible repeat (first|apply Kd.R_alloc|apply Kd.R_drewN|apply Kd.R_drew));exact HO212.out) hb);have n1_:=Aside0.mk (Kd.R_below (by (with_reducible repeat (first|apply Kd.R_alloc|apply Kd.R_drewN|apply Kd.R_drew));exact HO215.out) hb);have n2_:=Aside0.mk (Kd.R_below (by (with_reducible repeat (first|apply Kd.R_alloc|apply Kd.R_drewN|apply Kd.R_drew));exact HO222.out) hb);have n3_:=Aside0.mk (Kd.R_below (by (with_reducible repeat (first|apply Kd.R_alloc|apply Kd.R_drewN|apply Kd.R_drew));exact HO225.out) hb);have n4_:=Aside0.mk (zq13 (g:=gb217) (o:=.cells #[.string t208,.string t209,.slice Ao11 t210.length co11,.slice Ao12 t213.length co12] 28 (0,0)) (by (with_reducible repeat (first|refine zq4 ?_ _|refine zq7 ?_|refine zq3 ?_ _));exact BK217.out) hb);have n5_:=Aside0.mk (zq9 (by repeat (first|(with_reducible first|exact HB.out|apply zq1|apply zq0|apply zq2|refine zq5 ?_ GE217.out)|exact HB.out)) hb);have n6_:=Aside0.mk (hbox);have n7_:=Aside0.mk ((by rw [hg];exact (zq10 (by repeat (first|(with_reducible first|exact HB.out|apply zq1|apply zq0|apply zq2|refine zq5 ?_ GE217.out)|exact HB.out))):w.heap.size≤gb227));have n8_:=Aside0.mk ((by rw [hg];exact (zq10 (by repeat (first|(with_reducible first|exact HB.out|apply zq1|apply zq0|apply zq2|refine zq5 ?_ GE217.out)|exact HB.out))):w.heap.size≤gb227));have n9_:=Aside0.mk ((by rw [hg];exact Nat.ne_of_lt (blk_lt (g:=gb217) (o:=.cells #[.string t208,.string t209,.slice Ao11 t210.length co11,.slice Ao12 t213.length co12] 28 (0,0)) (by (with_reducible repeat (first|refine zq4 ?_ _|refine zq7 ?_|refine zq3 ?_ _));exact BK217.out)):gb217≠gb227));have n10_:=Aside0.mk ((by rw [hg];exact Nat.ne_of_gt (blk_lt (g:=gb217) (o:=.cells #[.string t208,.string t209,.slice Ao11 t210.length co11,.slice Ao12 t213.length co12] 28 (0,0)) (by (with_reducible repeat (first|refine zq4 ?_ _|refine zq7 ?_|refine zq3 ?_ _));exact BK217.out)):gb227≠gb217));clear HO212;clear HO215;clear HO222;clear HO225;clear BK217;clear HB;have HO212:=n0_;have HO215:=n1_;have HO222:=n2_;have HO225:=n3_;have BK217:=n4_;have HB:=n5_;have BK227:=n6_;have GW227:=n7_;have GE227:=n8_;have NB217_227:=n9_;have NB227_217:=n10_;clear n0_ n1_ n2_ n3_ n4_ n5_ n6_ n7_ n8_ n9_ n10_;clear hb hbox hg;have hnb15:=NB227_217.out;have hnc15:=NB217_227.out;have hcz16_0:w14.cell? ⟨gb227,0,none⟩=some (.string bz0):=(zq8 BK227.out 0).trans rfl;have hcz16_1:w14.cell? ⟨gb227,1,none⟩=some (.string bz0):=(zq8 BK227.out 1).trans rfl;have hcz16_2:w14.cell? ⟨gb227,2,none⟩=some (.slice none 0 0):=(zq8 BK227.out 2).trans rfl;have hcz16_3:w14.cell? ⟨gb227,3,none⟩=some (.slice none 0 0):=(zq8 BK227.out 3).trans rfl;have hfz16_0:=zq6 BK227.out 0;have hfz16_1:=zq6 BK227.out 1;have hfz16_2:=zq6 BK227.out 2;have hfz16_3:=zq6 BK227.out 3;obtain ⟨Ao17,co17,eo17⟩:=Kd.R_slice HO222.out;subst eo17;obtain ⟨Ao18,co18,eo18⟩:=Kd.R_slice HO225.out;subst eo18))
  (try simp only [Act.put,List.setIfInBounds_toArray,List.set_cons_zero,List.set_cons_succ])
  go_cut [35] (fun v35 wc=>∃ (kq:Nat) (x35_5:Bool),v35=.bool x35_5∧Aside0 (laws_FnMailGet.j0 kq t207 t216 t226 x35_5 t208 t209 t210 t213 t218 t219 t220 t223=some r)∧Aside0 (kq≤k)∧Aside0 (Kd.R k24 24 wc w.heap.size (fun k_=>some k_≠((.slice Ao17 t220.length co17):Value).ownBlock) (.slice Ao11 t210.length co11) t210)∧Aside0 (Kd.R Kd.string 9 wc w.heap.size (fun k_=>some k_≠((.slice Ao18 t223.length co18):Value).ownBlock) (.slice Ao12 t213.length co12) t213)∧Aside0 (Kd.R k24 24 wc w.heap.size (fun k_=>some k_≠((.slice Ao11 t210.length co11):Value).ownBlock) (.slice Ao17 t220.length co17) t220)∧Aside0 (Kd.R Kd.string 9 wc w.heap.size (fun k_=>some k_≠((.slice Ao12 t213.length co12):Value).ownBlock) (.slice Ao18 t223.length co18) t223)∧Aside0 (wc.heap[gb217]?=some (.cells #[.string t208,.string t209,(.slice Ao11 t210.length co11),(.slice Ao12 t213.length co12)] 28 (0,0)))∧Aside0 (wc.heap[gb227]?=some (.cells #[.string t218,.string t219,(.slice Ao17 t220.length co17),(.slice Ao18 t223.length co18)] 28 (0,0)))∧Aside0 (Below w.heap.size w wc))
  case first =>
   have H:=HC6.out
   clear HC6
   by_cases c19:(t216 != t226)=true
   ·rw [if_pos c19] at H
    have c19b0:(t216 != t226)=true:=c19
    (try (have c19b1:decide (t216=t226)=false:=by simpa using c19))
    (try (have c19b2:(t216==t226)=false:=by simpa using c19))
    (try (have c19b3:¬ (t216=t226):=by simpa using c19))
    clear c19
    (first|rw [c19b0]|(simp only [i64_w,i32_w];rw [c19b0])|skip)
    have H':=Aside0.mk H
    clear H
    go_wp2
    go_meet
    case rel=>exact ⟨_,(true),(by first|rfl|(simp;done)|(simp [*];done)),H',⟨by first|omega|exact Nat.le_refl _⟩,⟨by (with_reducible repeat (first|apply Kd.R_alloc|apply Kd.R_drewN|apply Kd.R_drew));exact Kd.R_mono (Kd.R_far (p:=⟨gb227,3,none⟩) (Kd.R_far (p:=⟨gb227,2,none⟩) (Kd.R_far (p:=⟨gb227,1,none⟩) (Kd.R_far (p:=⟨gb227,0,none⟩) (Kd.R_types HO212.out BK227.out (by decide)) (fun _ hk=>hk.2) (.string t218)) (fun _ hk=>hk.2) (.string t219)) (fun _ hk=>hk.2) (.slice Ao17 t220.length co17)) (fun _ hk=>hk.2) (.slice Ao18 t223.length co18)) (fun _ hk=>hk.1.2)⟩,⟨by (with_reducible repeat (first|apply Kd.R_alloc|apply Kd.R_drewN|apply Kd.R_drew));exact Kd.R_mono (Kd.R_far (p:=⟨gb227,3,none⟩) (Kd.R_far (p:=⟨gb227,2,none⟩) (Kd.R_far (p:=⟨gb227,1,none⟩) (Kd.R_far (p:=⟨gb227,0,none⟩) (Kd.R_types HO215.out BK227.out (by decide)) (fun _ hk=>hk.2) (.string t218)) (fun _ hk=>hk.2) (.string t219)) (fun _ hk=>hk.2) (.slice Ao17 t220.length co17)) (fun _ hk=>hk.2) (.slice Ao18 t223.length co18)) (fun _ hk=>hk.1.2)⟩,⟨by (with_reducible repeat (first|apply Kd.R_alloc|apply Kd.R_drewN|apply Kd.R_drew));exact Kd.R_mono (Kd.R_far (p:=⟨gb227,3,none⟩) (Kd.R_far (p:=⟨gb227,2,none⟩) (Kd.R_far (p:=⟨gb227,1,none⟩) (Kd.R_far (p:=⟨gb227,0,none⟩) (Kd.R_types HO222.out BK227.out (by decide)) (fun _ hk=>hk.2) (.string t218)) (fun _ hk=>hk.2) (.string t219)) (fun _ hk=>hk.2) (.slice Ao17 t220.length co17)) (fun _ hk=>hk.2) (.slice Ao18 t223.length co18)) (fun _ hk=>hk.1.2)⟩,⟨by (with_reducible repeat (first|apply Kd.R_alloc|apply Kd.R_drewN|apply Kd.R_drew));exact Kd.R_mono (Kd.R_far (p:=⟨gb227,3,none⟩) (Kd.R_far (p:=⟨gb227,2,none⟩) (Kd.R_far (p:=⟨gb227,1,none⟩) (Kd.R_far (p:=⟨gb227,0,none⟩) (Kd.R_types HO225.out BK227.out (by decide)) (fun _ hk=>hk.2) (.string t218)) (fun _ hk=>hk.2) (.string t219)) (fun _ hk=>hk.2) (.slice Ao17 t220.length co17)) (fun _ hk=>hk.2) (.slice Ao18 t223.length co18)) (fun _ hk=>hk.1.2)⟩,⟨by (with_reducible repeat (first|refine zq4 ?_ _|refine zq7 ?_|refine zq3 ?_ _));refine zq23 ?_ NB217_227.out _;(with_reducible repeat (first|refine zq4 ?_ _|refine zq7 ?_|refine zq3 ?_ _));refine zq23 ?_ NB217_227.out _;(with_reducible repeat (first|refine zq4 ?_ _|refine zq7 ?_|refine zq3 ?_ _));refine zq23 ?_ NB217_227.out _;(with_reducible repeat (first|refine zq4 ?_ _|refine zq7 ?_|refine zq3 ?_ _));refine zq23 ?_ NB217_227.out _;(with_reducible repeat (first|refine zq4 ?_ _|refine zq7 ?_|refine zq3 ?_ _));exact BK217.out⟩,⟨by (with_reducible repeat (first|refine zq4 ?_ _|refine zq7 ?_|refine zq3 ?_ _));refine zq17 (cs:=#[.string t218,.string t219,.slice Ao17 t220.length co17,.slice none 0 0]) ?_ 3 _ rfl;(with_reducible repeat (first|refine zq4 ?_ _|refine zq7 ?_|refine zq3 ?_ _));refine zq17 (cs:=#[.string t218,.string t219,.slice none 0 0,.slice none 0 0]) ?_ 2 _ rfl;(with_reducible repeat (first|refine zq4 ?_ _|refine zq7 ?_|refine zq3 ?_ _));refine zq17 (cs:=#[.string t218,.string bz0,.slice none 0 0,.slice none 0 0]) ?_ 1 _ rfl;(with_reducible repeat (first|refine zq4 ?_ _|refine zq7 ?_|refine zq3 ?_ _));refine zq17 (cs:=#[.string bz0,.string bz0,.slice none 0 0,.slice none 0 0]) ?_ 0 _ rfl;(with_reducible repeat (first|refine zq4 ?_ _|refine zq7 ?_|refine zq3 ?_ _));exact BK227.out⟩,⟨by repeat (first|(with_reducible first|exact HB.out|apply zq1|apply zq0|apply zq2|refine zq5 ?_ GE217.out|refine zq5 ?_ GE227.out)|exact HB.out)⟩⟩
   ·rw [if_neg c19] at H
    have c19b0:(t216 != t226)=false:=by simpa using c19
    (try (have c19b1:decide (t216=t226)=true:=by simpa using c19))
    (try (have c19b2:(t216==t226)=true:=by simpa using c19))
    clear c19
    (first|rw [c19b0]|(simp only [i64_w,i32_w];rw [c19b0])|skip)
    replace H:=Option.bind_eq_some_iff.mp H
    obtain ⟨t228,A200,H⟩:=H
    replace H:(if t228=true then (laws_FnMailGet.j0 k t207 t216 t226 (!t216) t208 t209 t210 t213 t218 t219 t220 t223) else (laws_FnMailGet.j0 k t207 t216 t226 true t208 t209 t210 t213 t218 t219 t220 t223))=some r:=H
    have A20:=Aside0.mk A200
    clear A200
    by_cases c21:t228=true
    ·subst c21
     have H1:(laws_FnMailGet.j0 k t207 t216 t226 (!t216) t208 t209 t210 t213 t218 t219 t220 t223)=some r:=by rw [if_pos rfl] at H;exact H
     clear H
     have H:=H1
     clear H1
     have H':=Aside0.mk H
     clear H
     have hnb22:=NB217_227.out
     have hnc22:=NB227_217.out
     have hcz23_0:w14.cell? ⟨gb217,0,none⟩=some (.string t208):=(zq8 BK217.out 0).trans rfl
     have hcz23_1:w14.cell? ⟨gb217,1,none⟩=some (.string t209):=(zq8 BK217.out 1).trans rfl
     have hcz23_2:w14.cell? ⟨gb217,2,none⟩=some (.slice Ao11 t210.length co11):=(zq8 BK217.out 2).trans rfl
     have hcz23_3:w14.cell? ⟨gb217,3,none⟩=some (.slice Ao12 t213.length co12):=(zq8 BK217.out 3).trans rfl
     have hfz23_0:=zq6 BK217.out 0
     have hfz23_1:=zq6 BK217.out 1
     have hfz23_2:=zq6 BK217.out 2
     have hfz23_3:=zq6 BK217.out 3
     have hcz24_0:w14.cell? ⟨gb227,0,none⟩=some (.string bz0):=(zq8 BK227.out 0).trans rfl
     have hcz24_1:w14.cell? ⟨gb227,1,none⟩=some (.string bz0):=(zq8 BK227.out 1).trans rfl
     have hcz24_2:w14.cell? ⟨gb227,2,none⟩=some (.slice none 0 0):=(zq8 BK227.out 2).trans rfl
     have hcz24_3:w14.cell? ⟨gb227,3,none⟩=some (.slice none 0 0):=(zq8 BK227.out 3).trans rfl
     have hfz24_0:=zq6 BK227.out 0
     have hfz24_1:=zq6 BK227.out 1
     have hfz24_2:=zq6 BK227.out 2
     have hfz24_3:=zq6 BK227.out 3
     go_wp2_with (first|(go_at_call 12;(with_reducible refine (laws_saMail.calls k t208 t209 _ _ t210 _ _ t213 t218 t219 _ _ t220 _ _ t223 true _ ?side1 ?side2 ?side3 ?side4 ?side5 ?side6 ?side7 ?side8 A20.out).mono ?_);(case side1=>refine (Kd.R_reads' (e:=24) (base:=w.heap.size) (ok:=fun k_=>(True∧some k_≠(.slice Ao17 t220.length co17:Value).ownBlock)) (n:=t210.length) (c:=co11) ?_).2.2;exact (by (with_reducible repeat (first|apply Kd.R_alloc|apply Kd.R_drewN|apply Kd.R_drew));exact (Kd.R_mono (Kd.R_far (p:=⟨gb227,3,none⟩) (Kd.R_far (p:=⟨gb227,2,none⟩) (Kd.R_far (p:=⟨gb227,1,none⟩) (Kd.R_far (p:=⟨gb227,0,none⟩) (Kd.R_types HO212.out BK227.out (by decide)) (fun _ hk=>hk.2) (.string t218)) (fun _ hk=>hk.2) (.string t219)) (fun _ hk=>hk.2) (.slice Ao17 t220.length co17)) (fun _ hk=>hk.2) (.slice Ao18 t223.length co18)) (fun _ h_=>h_.1))));(case side2=>exact (Kd.R_reads' HO212.out).2.1);(case side3=>refine (Kd.R_reads' (e:=9) (base:=w.heap.size) (ok:=fun k_=>(True∧some k_≠(.slice Ao18 t223.length co18:Value).ownBlock)) (n:=t213.length) (c:=co12) ?_).2.2;exact (by (with_reducible repeat (first|apply Kd.R_alloc|apply Kd.R_drewN|apply Kd.R_drew));exact (Kd.R_mono (Kd.R_far (p:=⟨gb227,3,none⟩) (Kd.R_far (p:=⟨gb227,2,none⟩) (Kd.R_far (p:=⟨gb227,1,none⟩) (Kd.R_far (p:=⟨gb227,0,none⟩) (Kd.R_types HO215.out BK227.out (by decide)) (fun _ hk=>hk.2) (.string t218)) (fun _ hk=>hk.2) (.string t219)) (fun _ hk=>hk.2) (.slice Ao17 t220.length co17)) (fun _ hk=>hk.2) (.slice Ao18 t223.length co18)) (fun _ h_=>h_.1))));(case side4=>exact (Kd.R_reads' HO215.out).2.1);(case side5=>refine (Kd.R_reads' (e:=24) (base:=w.heap.size) (ok:=fun k_=>(True∧some k_≠(.slice Ao11 t210.length co11:Value).ownBlock)) (n:=t220.length) (c:=co17) ?_).2.2;exact (by (with_reducible repeat (first|apply Kd.R_alloc|apply Kd.R_drewN|apply Kd.R_drew));exact (Kd.R_mono (Kd.R_far (p:=⟨gb227,3,none⟩) (Kd.R_far (p:=⟨gb227,2,none⟩) (Kd.R_far (p:=⟨gb227,1,none⟩) (Kd.R_far (p:=⟨gb227,0,none⟩) (Kd.R_types HO222.out BK227.out (by decide)) (fun _ hk=>hk.2) (.string t218)) (fun _ hk=>hk.2) (.string t219)) (fun _ hk=>hk.2) (.slice Ao17 t220.length co17)) (fun _ hk=>hk.2) (.slice Ao18 t223.length co18)) (fun _ h_=>h_.1))));(case side6=>exact (Kd.R_reads' HO222.out).2.1);(case side7=>refine (Kd.R_reads' (e:=9) (base:=w.heap.size) (ok:=fun k_=>(True∧some k_≠(.slice Ao12 t213.length co12:Value).ownBlock)) (n:=t223.length) (c:=co18) ?_).2.2;exact (by (with_reducible repeat (first|apply Kd.R_alloc|apply Kd.R_drewN|apply Kd.R_drew));exact (Kd.R_mono (Kd.R_far (p:=⟨gb227,3,none⟩) (Kd.R_far (p:=⟨gb227,2,none⟩) (Kd.R_far (p:=⟨gb227,1,none⟩) (Kd.R_far (p:=⟨gb227,0,none⟩) (Kd.R_types HO225.out BK227.out (by decide)) (fun _ hk=>hk.2) (.string t218)) (fun _ hk=>hk.2) (.string t219)) (fun _ hk=>hk.2) (.slice Ao17 t220.length co17)) (fun _ hk=>hk.2) (.slice Ao18 t223.length co18)) (fun _ h_=>h_.1))));(case side8=>exact (Kd.R_reads' HO225.out).2.1);rintro e w25 ⟨rfl,hb⟩;have n0_:=Aside0.mk (Kd.R_below (by (with_reducible repeat (first|apply Kd.R_alloc|apply Kd.R_drewN|apply Kd.R_drew));exact (Kd.R_mono (Kd.R_far (p:=⟨gb227,3,none⟩) (Kd.R_far (p:=⟨gb227,2,none⟩) (Kd.R_far (p:=⟨gb227,1,none⟩) (Kd.R_far (p:=⟨gb227,0,none⟩) (Kd.R_types HO212.out BK227.out (by decide)) (fun _ hk=>hk.2) (.string t218)) (fun _ hk=>hk.2) (.string t219)) (fun _ hk=>hk.2) (.slice Ao17 t220.length co17)) (fun _ hk=>hk.2) (.slice Ao18 t223.length co18)) (fun _ h_=>h_.1))) hb);have n1_:=Aside0.mk (Kd.R_below (by (with_reducible repeat (first|apply Kd.R_alloc|apply Kd.R_drewN|apply Kd.R_drew));exact (Kd.R_mono (Kd.R_far (p:=⟨gb227,3,none⟩) (Kd.R_far (p:=⟨gb227,2,none⟩) (Kd.R_far (p:=⟨gb227,1,none⟩) (Kd.R_far (p:=⟨gb227,0,none⟩) (Kd.R_types HO215.out BK227.out (by decide)) (fun _ hk=>hk.2) (.string t218)) (fun _ hk=>hk.2) (.string t219)) (fun _ hk=>hk.2) (.slice Ao17 t220.length co17)) (fun _ hk=>hk.2) (.slice Ao18 t223.length co18)) (fun _ h_=>h_.1))) hb);have n2_:=Aside0.mk (Kd.R_below (by (with_reducible repeat (first|apply Kd.R_alloc|apply Kd.R_drewN|apply Kd.R_drew));exact (Kd.R_mono (Kd.R_far (p:=⟨gb227,3,none⟩) (Kd.R_far (p:=⟨gb227,2,none⟩) (Kd.R_far (p:=⟨gb227,1,none⟩) (Kd.R_far (p:=⟨gb227,0,none⟩) (Kd.R_types HO222.out BK227.out (by decide)) (fun _ hk=>hk.2) (.string t218)) (fun _ hk=>hk.2) (.string t219)) (fun _ hk=>hk.2) (.slice Ao17 t220.length co17)) (fun _ hk=>hk.2) (.slice Ao18 t223.length co18)) (fun _ h_=>h_.1))) hb);have n3_:=Aside0.mk (Kd.R_below (by (with_reducible repeat (first|apply Kd.R_alloc|apply Kd.R_drewN|apply Kd.R_drew));exact (Kd.R_mono (Kd.R_far (p:=⟨gb227,3,none⟩) (Kd.R_far (p:=⟨gb227,2,none⟩) (Kd.R_far (p:=⟨gb227,1,none⟩) (Kd.R_far (p:=⟨gb227,0,none⟩) (Kd.R_types HO225.out BK227.out (by decide)) (fun _ hk=>hk.2) (.string t218)) (fun _ hk=>hk.2) (.string t219)) (fun _ hk=>hk.2) (.slice Ao17 t220.length co17)) (fun _ hk=>hk.2) (.slice Ao18 t223.length co18)) (fun _ h_=>h_.1))) hb);have n4_:=Aside0.mk (zq13 (g:=gb217) (o:=.cells #[.string t208,.string t209,.slice Ao11 t210.length co11,.slice Ao12 t213.length co12] 28 (0,0)) (by (with_reducible repeat (first|refine zq4 ?_ _|refine zq7 ?_|refine zq3 ?_ _));refine zq23 ?_ NB217_227.out _;(with_reducible repeat (first|refine zq4 ?_ _|refine zq7 ?_|refine zq3 ?_ _));refine zq23 ?_ NB217_227.out _;(with_reducible repeat (first|refine zq4 ?_ _|refine zq7 ?_|refine zq3 ?_ _));refine zq23 ?_ NB217_227.out _;(with_reducible repeat (first|refine zq4 ?_ _|refine zq7 ?_|refine zq3 ?_ _));refine zq23 ?_ NB217_227.out _;(with_reducible repeat (first|refine zq4 ?_ _|refine zq7 ?_|refine zq3 ?_ _));exact BK217.out) hb);have n5_:=Aside0.mk (zq13 (g:=gb227) (o:=.cells #[.string t218,.string t219,.slice Ao17 t220.length co17,.slice Ao18 t223.length co18] 28 (0,0)) (by (with_reducible repeat (first|refine zq4 ?_ _|refine zq7 ?_|refine zq3 ?_ _));refine zq17 (cs:=#[.string t218,.string t219,.slice Ao17 t220.length co17,.slice none 0 0]) ?_ 3 _ rfl;(with_reducible repeat (first|refine zq4 ?_ _|refine zq7 ?_|refine zq3 ?_ _));refine zq17 (cs:=#[.string t218,.string t219,.slice none 0 0,.slice none 0 0]) ?_ 2 _ rfl;(with_reducible repeat (first|refine zq4 ?_ _|refine zq7 ?_|refine zq3 ?_ _));refine zq17 (cs:=#[.string t218,.string bz0,.slice none 0 0,.slice none 0 0]) ?_ 1 _ rfl;(with_reducible repeat (first|refine zq4 ?_ _|refine zq7 ?_|refine zq3 ?_ _));refine zq17 (cs:=#[.string bz0,.string bz0,.slice none 0 0,.slice none 0 0]) ?_ 0 _ rfl;(with_reducible repeat (first|refine zq4 ?_ _|refine zq7 ?_|refine zq3 ?_ _));exact BK227.out) hb);have n6_:=Aside0.mk (zq9 (by repeat (first|(with_reducible first|exact HB.out|apply zq1|apply zq0|apply zq2|refine zq5 ?_ GE217.out|refine zq5 ?_ GE227.out)|exact HB.out)) hb);clear HO212;clear HO215;clear HO222;clear HO225;clear BK217;clear BK227;clear HB;have HO212:=n0_;have HO215:=n1_;have HO222:=n2_;have HO225:=n3_;have BK217:=n4_;have BK227:=n5_;have HB:=n6_;clear n0_ n1_ n2_ n3_ n4_ n5_ n6_;(try clear hb);(try clear hb2);(try clear hk);(try clear hi)))
     go_meet
     case rel=>exact ⟨_,(!t216),(by first|rfl|(simp;done)|(simp [*];done)),H',⟨by first|omega|exact Nat.le_refl _⟩,⟨by (with_reducible repeat (first|apply Kd.R_alloc|apply Kd.R_drewN|apply Kd.R_drew));exact Kd.R_mono HO212.out (fun _ hk=>hk.2)⟩,⟨by (with_reducible repeat (first|apply Kd.R_alloc|apply Kd.R_drewN|apply Kd.R_drew));exact Kd.R_mono HO215.out (fun _ hk=>hk.2)⟩,⟨by (with_reducible repeat (first|apply Kd.R_alloc|apply Kd.R_drewN|apply Kd.R_drew));exact Kd.R_mono HO222.out (fun _ hk=>hk.2)⟩,⟨by (with_reducible repeat (first|apply Kd.R_alloc|apply Kd.R_drewN|apply Kd.R_drew));exact Kd.R_mono HO225.out (fun _ hk=>hk.2)⟩,⟨by (with_reducible repeat (first|refine zq4 ?_ _|refine zq7 ?_|refine zq3 ?_ _));exact BK217.out⟩,⟨by (with_reducible repeat (first|refine zq4 ?_ _|refine zq7 ?_|refine zq3 ?_ _));exact BK227.out⟩,⟨by repeat (first|(with_reducible first|exact HB.out|apply zq1|apply zq0|apply zq2|refine zq5 ?_ GE217.out|refine zq5 ?_ GE227.out)|exact HB.out)⟩⟩
    ·replace c21:=Bool.eq_false_iff.mpr c21
     subst c21
     have H1:(laws_FnMailGet.j0 k t207 t216 t226 true t208 t209 t210 t213 t218 t219 t220 t223)=some r:=by rw [if_neg (show ¬ (false=true) by decide)] at H;exact H
     clear H
     have H:=H1
     clear H1
     have H':=Aside0.mk H
     clear H
     have hnb26:=NB217_227.out
     have hnc26:=NB227_217.out
     have hcz27_0:w14.cell? ⟨gb217,0,none⟩=some (.string t208):=(zq8 BK217.out 0).trans rfl
     have hcz27_1:w14.cell? ⟨gb217,1,none⟩=some (.string t209):=(zq8 BK217.out 1).trans rfl
     have hcz27_2:w14.cell? ⟨gb217,2,none⟩=some (.slice Ao11 t210.length co11):=(zq8 BK217.out 2).trans rfl
     have hcz27_3:w14.cell? ⟨gb217,3,none⟩=some (.slice Ao12 t213.length co12):=(zq8 BK217.out 3).trans rfl
     have hfz27_0:=zq6 BK217.out 0
     have hfz27_1:=zq6 BK217.out 1
     have hfz27_2:=zq6 BK217.out 2
     have hfz27_3:=zq6 BK217.out 3
     have hcz28_0:w14.cell? ⟨gb227,0,none⟩=some (.string bz0):=(zq8 BK227.out 0).trans rfl
     have hcz28_1:w14.cell? ⟨gb227,1,none⟩=some (.string bz0):=(zq8 BK227.out 1).trans rfl
     have hcz28_2:w14.cell? ⟨gb227,2,none⟩=some (.slice none 0 0):=(zq8 BK227.out 2).trans rfl
     have hcz28_3:w14.cell? ⟨gb227,3,none⟩=some (.slice none 0 0):=(zq8 BK227.out 3).trans rfl
     have hfz28_0:=zq6 BK227.out 0
     have hfz28_1:=zq6 BK227.out 1
     have hfz28_2:=zq6 BK227.out 2
     have hfz28_3:=zq6 BK227.out 3
     go_wp2_with (first|(go_at_call 12;(with_reducible refine (laws_saMail.calls k t208 t209 _ _ t210 _ _ t213 t218 t219 _ _ t220 _ _ t223 false _ ?side1 ?side2 ?side3 ?side4 ?side5 ?side6 ?side7 ?side8 A20.out).mono ?_);(case side1=>refine (Kd.R_reads' (e:=24) (base:=w.heap.size) (ok:=fun k_=>(True∧some k_≠(.slice Ao17 t220.length co17:Value).ownBlock)) (n:=t210.length) (c:=co11) ?_).2.2;exact (by (with_reducible repeat (first|apply Kd.R_alloc|apply Kd.R_drewN|apply Kd.R_drew));exact (Kd.R_mono (Kd.R_far (p:=⟨gb227,3,none⟩) (Kd.R_far (p:=⟨gb227,2,none⟩) (Kd.R_far (p:=⟨gb227,1,none⟩) (Kd.R_far (p:=⟨gb227,0,none⟩) (Kd.R_types HO212.out BK227.out (by decide)) (fun _ hk=>hk.2) (.string t218)) (fun _ hk=>hk.2) (.string t219)) (fun _ hk=>hk.2) (.slice Ao17 t220.length co17)) (fun _ hk=>hk.2) (.slice Ao18 t223.length co18)) (fun _ h_=>h_.1))));(case side2=>exact (Kd.R_reads' HO212.out).2.1);(case side3=>refine (Kd.R_reads' (e:=9) (base:=w.heap.size) (ok:=fun k_=>(True∧some k_≠(.slice Ao18 t223.length co18:Value).ownBlock)) (n:=t213.length) (c:=co12) ?_).2.2;exact (by (with_reducible repeat (first|apply Kd.R_alloc|apply Kd.R_drewN|apply Kd.R_drew));exact (Kd.R_mono (Kd.R_far (p:=⟨gb227,3,none⟩) (Kd.R_far (p:=⟨gb227,2,none⟩) (Kd.R_far (p:=⟨gb227,1,none⟩) (Kd.R_far (p:=⟨gb227,0,none⟩) (Kd.R_types HO215.out BK227.out (by decide)) (fun _ hk=>hk.2) (.string t218)) (fun _ hk=>hk.2) (.string t219)) (fun _ hk=>hk.2) (.slice Ao17 t220.length co17)) (fun _ hk=>hk.2) (.slice Ao18 t223.length co18)) (fun _ h_=>h_.1))));(case side4=>exact (Kd.R_reads' HO215.out).2.1);(case side5=>refine (Kd.R_reads' (e:=24) (base:=w.heap.size) (ok:=fun k_=>(True∧some k_≠(.slice Ao11 t210.length co11:Value).ownBlock)) (n:=t220.length) (c:=co17) ?_).2.2;exact (by (with_reducible repeat (first|apply Kd.R_alloc|apply Kd.R_drewN|apply Kd.R_drew));exact (Kd.R_mono (Kd.R_far (p:=⟨gb227,3,none⟩) (Kd.R_far (p:=⟨gb227,2,none⟩) (Kd.R_far (p:=⟨gb227,1,none⟩) (Kd.R_far (p:=⟨gb227,0,none⟩) (Kd.R_types HO222.out BK227.out (by decide)) (fun _ hk=>hk.2) (.string t218)) (fun _ hk=>hk.2) (.string t219)) (fun _ hk=>hk.2) (.slice Ao17 t220.length co17)) (fun _ hk=>hk.2) (.slice Ao18 t223.length co18)) (fun _ h_=>h_.1))));(case side6=>exact (Kd.R_reads' HO222.out).2.1);(case side7=>refine (Kd.R_reads' (e:=9) (base:=w.heap.size) (ok:=fun k_=>(True∧some k_≠(.slice Ao12 t213.length co12:Value).ownBlock)) (n:=t223.length) (c:=co18) ?_).2.2;exact (by (with_reducible repeat (first|apply Kd.R_alloc|apply Kd.R_drewN|apply Kd.R_drew));exact (Kd.R_mono (Kd.R_far (p:=⟨gb227,3,none⟩) (Kd.R_far (p:=⟨gb227,2,none⟩) (Kd.R_far (p:=⟨gb227,1,none⟩) (Kd.R_far (p:=⟨gb227,0,none⟩) (Kd.R_types HO225.out BK227.out (by decide)) (fun _ hk=>hk.2) (.string t218)) (fun _ hk=>hk.2) (.string t219)) (fun _ hk=>hk.2) (.slice Ao17 t220.length co17)) (fun _ hk=>hk.2) (.slice Ao18 t223.length co18)) (fun _ h_=>h_.1))));(case side8=>exact (Kd.R_reads' HO225.out).2.1);rintro e w29 ⟨rfl,hb⟩;have n0_:=Aside0.mk (Kd.R_below (by (with_reducible repeat (first|apply Kd.R_alloc|apply Kd.R_drewN|apply Kd.R_drew));exact (Kd.R_mono (Kd.R_far (p:=⟨gb227,3,none⟩) (Kd.R_far (p:=⟨gb227,2,none⟩) (Kd.R_far (p:=⟨gb227,1,none⟩) (Kd.R_far (p:=⟨gb227,0,none⟩) (Kd.R_types HO212.out BK227.out (by decide)) (fun _ hk=>hk.2) (.string t218)) (fun _ hk=>hk.2) (.string t219)) (fun _ hk=>hk.2) (.slice Ao17 t220.length co17)) (fun _ hk=>hk.2) (.slice Ao18 t223.length co18)) (fun _ h_=>h_.1))) hb);have n1_:=Aside0.mk (Kd.R_below (by (with_reducible repeat (first|apply Kd.R_alloc|apply Kd.R_drewN|apply Kd.R_drew));exact (Kd.R_mono (Kd.R_far (p:=⟨gb227,3,none⟩) (Kd.R_far (p:=⟨gb227,2,none⟩) (Kd.R_far (p:=⟨gb227,1,none⟩) (Kd.R_far (p:=⟨gb227,0,none⟩) (Kd.R_types HO215.out BK227.out (by decide)) (fun _ hk=>hk.2) (.string t218)) (fun _ hk=>hk.2) (.string t219)) (fun _ hk=>hk.2) (.slice Ao17 t220.length co17)) (fun _ hk=>hk.2) (.slice Ao18 t223.length co18)) (fun _ h_=>h_.1))) hb);have n2_:=Aside0.mk (Kd.R_below (by (with_reducible repeat (first|apply Kd.R_alloc|apply Kd.R_drewN|apply Kd.R_drew));exact (Kd.R_mono (Kd.R_far (p:=⟨gb227,3,none⟩) (Kd.R_far (p:=⟨gb227,2,none⟩) (Kd.R_far (p:=⟨gb227,1,none⟩) (Kd.R_far (p:=⟨gb227,0,none⟩) (Kd.R_types HO222.out BK227.out (by decide)) (fun _ hk=>hk.2) (.string t218)) (fun _ hk=>hk.2) (.string t219)) (fun _ hk=>hk.2) (.slice Ao17 t220.length co17)) (fun _ hk=>hk.2) (.slice Ao18 t223.length co18)) (fun _ h_=>h_.1))) hb);have n3_:=Aside0.mk (Kd.R_below (by (with_reducible repeat (first|apply Kd.R_alloc|apply Kd.R_drewN|apply Kd.R_drew));exact (Kd.R_mono (Kd.R_far (p:=⟨gb227,3,none⟩) (Kd.R_far (p:=⟨gb227,2,none⟩) (Kd.R_far (p:=⟨gb227,1,none⟩) (Kd.R_far (p:=⟨gb227,0,none⟩) (Kd.R_types HO225.out BK227.out (by decide)) (fun _ hk=>hk.2) (.string t218)) (fun _ hk=>hk.2) (.string t219)) (fun _ hk=>hk.2) (.slice Ao17 t220.length co17)) (fun _ hk=>hk.2) (.slice Ao18 t223.length co18)) (fun _ h_=>h_.1))) hb);have n4_:=Aside0.mk (zq13 (g:=gb217) (o:=.cells #[.string t208,.string t209,.slice Ao11 t210.length co11,.slice Ao12 t213.length co12] 28 (0,0)) (by (with_reducible repeat (first|refine zq4 ?_ _|refine zq7 ?_|refine zq3 ?_ _));refine zq23 ?_ NB217_227.out _;(with_reducible repeat (first|refine zq4 ?_ _|refine zq7 ?_|refine zq3 ?_ _));refine zq23 ?_ NB217_227.out _;(with_reducible repeat (first|refine zq4 ?_ _|refine zq7 ?_|refine zq3 ?_ _));refine zq23 ?_ NB217_227.out _;(with_reducible repeat (first|refine zq4 ?_ _|refine zq7 ?_|refine zq3 ?_ _));refine zq23 ?_ NB217_227.out _;(with_reducible repeat (first|refine zq4 ?_ _|refine zq7 ?_|refine zq3 ?_ _));exact BK217.out) hb);have n5_:=Aside0.mk (zq13 (g:=gb227) (o:=.cells #[.string t218,.string t219,.slice Ao17 t220.length co17,.slice Ao18 t223.length co18] 28 (0,0)) (by (with_reducible repeat (first|refine zq4 ?_ _|refine zq7 ?_|refine zq3 ?_ _));refine zq17 (cs:=#[.string t218,.string t219,.slice Ao17 t220.length co17,.slice none 0 0]) ?_ 3 _ rfl;(with_reducible repeat (first|refine zq4 ?_ _|refine zq7 ?_|refine zq3 ?_ _));refine zq17 (cs:=#[.string t218,.string t219,.slice none 0 0,.slice none 0 0]) ?_ 2 _ rfl;(with_reducible repeat (first|refine zq4 ?_ _|refine zq7 ?_|refine zq3 ?_ _));refine zq17 (cs:=#[.string t218,.string bz0,.slice none 0 0,.slice none 0 0]) ?_ 1 _ rfl;(with_reducible repeat (first|refine zq4 ?_ _|refine zq7 ?_|refine zq3 ?_ _));refine zq17 (cs:=#[.string bz0,.string bz0,.slice none 0 0,.slice none 0 0]) ?_ 0 _ rfl;(with_reducible repeat (first|refine zq4 ?_ _|refine zq7 ?_|refine zq3 ?_ _));exact BK227.out) hb);have n6_:=Aside0.mk (zq9 (by repeat (first|(with_reducible first|exact HB.out|apply zq1|apply zq0|apply zq2|refine zq5 ?_ GE217.out|refine zq5 ?_ GE227.out)|exact HB.out)) hb);clear HO212;clear HO215;clear HO222;clear HO225;clear BK217;clear BK227;clear HB;have HO212:=n0_;have HO215:=n1_;have HO222:=n2_;have HO225:=n3_;have BK217:=n4_;have BK227:=n5_;have HB:=n6_;clear n0_ n1_ n2_ n3_ n4_ n5_ n6_;(try clear hb);(try clear hb2);(try clear hk);(try clear hi)))
     go_meet
     case rel=>exact ⟨_,(true),(by first|rfl|(simp;done)|(simp [*];done)),H',⟨by first|omega|exact Nat.le_refl _⟩,⟨by (with_reducible repeat (first|apply Kd.R_alloc|apply Kd.R_drewN|apply Kd.R_drew));exact Kd.R_mono HO212.out (fun _ hk=>hk.2)⟩,⟨by (with_reducible repeat (first|apply Kd.R_alloc|apply Kd.R_drewN|apply Kd.R_drew));exact Kd.R_mono HO215.out (fun _ hk=>hk.2)⟩,⟨by (with_reducible repeat (first|apply Kd.R_alloc|apply Kd.R_drewN|apply Kd.R_drew));exact Kd.R_mono HO222.out (fun _ hk=>hk.2)⟩,⟨by (with_reducible repeat (first|apply Kd.R_alloc|apply Kd.R_drewN|apply Kd.R_drew));exact Kd.R_mono HO225.out (fun _ hk=>hk.2)⟩,⟨by (with_reducible repeat (first|refine zq4 ?_ _|refine zq7 ?_|refine zq3 ?_ _));exact BK217.out⟩,⟨by (with_reducible repeat (first|refine zq4 ?_ _|refine zq7 ?_|refine zq3 ?_ _));exact BK227.out⟩,⟨by repeat (first|(with_reducible first|exact HB.out|apply zq1|apply zq0|apply zq2|refine zq5 ?_ GE217.out|refine zq5 ?_ GE227.out)|exact HB.out)⟩⟩
  case rest =>
   clear HC6
   try clear c1
   try clear c2
   try clear c2b0
   try clear c2b1
   try clear p2
   try clear c5
   try clear c11
   try clear c13
   try clear c15
   try clear c17
   try clear c19
   try clear c19b0
   try clear c19b1
   try clear c19b2
   try clear c21
   try clear c22
   try clear c26
   try clear hcz10_0
   try clear hcz10_1
   try clear hcz10_2
   try clear hcz10_3
   try clear hcz16_0
   try clear hcz16_1
   try clear hcz16_2
   try clear hcz16_3
   try clear hcz23_0
   try clear hcz23_1
   try clear hcz23_2
   try clear hcz23_3
   try clear hcz24_0
   try clear hcz24_1
   try clear hcz24_2
   try clear hcz24_3
   try clear hcz27_0
   try clear hcz27_1
   try clear hcz27_2
   try clear hcz27_3
   try clear hcz28_0
   try clear hcz28_1
   try clear hcz28_2
   try clear hcz28_3
   try clear hfz10_0
   try clear hfz10_1
   try clear hfz10_2
   try clear hfz10_3
   try clear hfz16_0
   try clear hfz16_1
   try clear hfz16_2
   try clear hfz16_3
   try clear hfz23_0
   try clear hfz23_1
   try clear hfz23_2
   try clear hfz23_3
   try clear hfz24_0
   try clear hfz24_1
   try clear hfz24_2
   try clear hfz24_3
   try clear hfz27_0
   try clear hfz27_1
   try clear hfz27_2
   try clear hfz27_3
   try clear hfz28_0
   try clear hfz28_1
   try clear hfz28_2
   try clear hfz28_3
   obtain ⟨kq,x35_5,rfl,HA,HJ5,HO_218002,HO_218003,HO_228002,HO_228003,BK217,BK227,HB⟩:=hcut
   cases kq with
   | zero=>exact absurd HA.out (by simp [laws_FnMailGet.j0])
   | succ kj5 =>
    have H:=HA.out
    clear HA
    simp only [laws_FnMailGet.j0] at H
    by_cases c30:x35_5=true
    ·subst c30
     have H1:(if (t216==t226)=true then ((laws_saMail.f kj5 t208 t209 t210 t213 t218 t219 t220 t223).bind fun t229=>(some t229)) else (some false))=some r:=by rw [if_pos rfl] at H;exact H
     clear H
     have H:=H1
     clear H1
     by_cases c31:(t216==t226)=true
     ·rw [if_pos c31] at H
      have c31b0:(t216==t226)=true:=c31
      (try (have c31b1:decide (t216=t226)=true:=by simpa using c31))
      (try (have c31b2:(t216==t226)=true:=by simpa using c31))
      clear c31
      replace H:=Option.bind_eq_some_iff.mp H
      obtain ⟨t229,A320,H⟩:=H
      replace H:(some t229)=some r:=H
      have A32:=Aside0.mk A320
      clear A320
      obtain rfl:=Option.some.inj H
      have hnb33:=NB217_227.out
      have hnc33:=NB227_217.out
      have hcz34_0:wc.cell? ⟨gb217,0,none⟩=some (.string t208):=(zq8 BK217.out 0).trans rfl
      have hcz34_1:wc.cell? ⟨gb217,1,none⟩=some (.string t209):=(zq8 BK217.out 1).trans rfl
      have hcz34_2:wc.cell? ⟨gb217,2,none⟩=some (.slice Ao11 t210.length co11):=(zq8 BK217.out 2).trans rfl
      have hcz34_3:wc.cell? ⟨gb217,3,none⟩=some (.slice Ao12 t213.length co12):=(zq8 BK217.out 3).trans rfl
      have hfz34_0:=zq6 BK217.out 0
      have hfz34_1:=zq6 BK217.out 1
      have hfz34_2:=zq6 BK217.out 2
      have hfz34_3:=zq6 BK217.out 3
      have hcz35_0:wc.cell? ⟨gb227,0,none⟩=some (.string t218):=(zq8 BK227.out 0).trans rfl
      have hcz35_1:wc.cell? ⟨gb227,1,none⟩=some (.string t219):=(zq8 BK227.out 1).trans rfl
      have hcz35_2:wc.cell? ⟨gb227,2,none⟩=some (.slice Ao17 t220.length co17):=(zq8 BK227.out 2).trans rfl
      have hcz35_3:wc.cell? ⟨gb227,3,none⟩=some (.slice Ao18 t223.length co18):=(zq8 BK227.out 3).trans rfl
      have hfz35_0:=zq6 BK227.out 0
      have hfz35_1:=zq6 BK227.out 1
      have hfz35_2:=zq6 BK227.out 2
      have hfz35_3:=zq6 BK227.out 3
      go_wp2_with (first|(go_at_call 12;(with_reducible refine (laws_saMail.calls kj5 t208 t209 _ _ t210 _ _ t213 t218 t219 _ _ t220 _ _ t223 t229 _ ?side1 ?side2 ?side3 ?side4 ?side5 ?side6 ?side7 ?side8 A32.out).mono ?_);(case side1=>repeat (first|exact (Kd.R_reads' HO_218002.out).2.2|(with_reducible refine Kd.C_alloc ?_ _)|(with_reducible refine Kd.C_drewN ?_ _)|(with_reducible refine Kd.C_drew ?_)));(case side2=>exact (Kd.R_reads' HO_218002.out).2.1);(case side3=>repeat (first|exact (Kd.R_reads' HO_218003.out).2.2|(with_reducible refine Kd.C_alloc ?_ _)|(with_reducible refine Kd.C_drewN ?_ _)|(with_reducible refine Kd.C_drew ?_)));(case side4=>exact (Kd.R_reads' HO_218003.out).2.1);(case side5=>repeat (first|exact (Kd.R_reads' HO_228002.out).2.2|(with_reducible refine Kd.C_alloc ?_ _)|(with_reducible refine Kd.C_drewN ?_ _)|(with_reducible refine Kd.C_drew ?_)));(case side6=>exact (Kd.R_reads' HO_228002.out).2.1);(case side7=>repeat (first|exact (Kd.R_reads' HO_228003.out).2.2|(with_reducible refine Kd.C_alloc ?_ _)|(with_reducible refine Kd.C_drewN ?_ _)|(with_reducible refine Kd.C_drew ?_)));(case side8=>exact (Kd.R_reads' HO_228003.out).2.1);rintro e w36 ⟨rfl,hb⟩;have n0_:=Aside0.mk (Kd.R_below (by (with_reducible repeat (first|apply Kd.R_alloc|apply Kd.R_drewN|apply Kd.R_drew));exact HO_218002.out) hb);have n1_:=Aside0.mk (Kd.R_below (by (with_reducible repeat (first|apply Kd.R_alloc|apply Kd.R_drewN|apply Kd.R_drew));exact HO_218003.out) hb);have n2_:=Aside0.mk (Kd.R_below (by (with_reducible repeat (first|apply Kd.R_alloc|apply Kd.R_drewN|apply Kd.R_drew));exact HO_228002.out) hb);have n3_:=Aside0.mk (Kd.R_below (by (with_reducible repeat (first|apply Kd.R_alloc|apply Kd.R_drewN|apply Kd.R_drew));exact HO_228003.out) hb);have n4_:=Aside0.mk (zq13 (g:=gb217) (o:=.cells #[.string t208,.string t209,.slice Ao11 t210.length co11,.slice Ao12 t213.length co12] 28 (0,0)) (by (with_reducible repeat (first|refine zq4 ?_ _|refine zq7 ?_|refine zq3 ?_ _));exact BK217.out) hb);have n5_:=Aside0.mk (zq13 (g:=gb227) (o:=.cells #[.string t218,.string t219,.slice Ao17 t220.length co17,.slice Ao18 t223.length co18] 28 (0,0)) (by (with_reducible repeat (first|refine zq4 ?_ _|refine zq7 ?_|refine zq3 ?_ _));exact BK227.out) hb);have n6_:=Aside0.mk (zq9 (by repeat (first|(with_reducible first|exact HB.out|apply zq1|apply zq0|apply zq2|refine zq5 ?_ GE217.out|refine zq5 ?_ GE227.out)|exact HB.out)) hb);clear HO_218002;clear HO_218003;clear HO_228002;clear HO_228003;clear BK217;clear BK227;clear HB;have HO_218002:=n0_;have HO_218003:=n1_;have HO_228002:=n2_;have HO_228003:=n3_;have BK217:=n4_;have BK227:=n5_;have HB:=n6_;clear n0_ n1_ n2_ n3_ n4_ n5_ n6_;(try clear hb);(try clear hb2);(try clear hk);(try clear hi)))
      go_ret
      exact ⟨by first|rfl|(simp [zq11,zq12]<;>rfl)|(simp [*,zq11,zq12]<;>rfl),by repeat (first|(with_reducible first|exact HB.out|apply zq1|apply zq0|apply zq2|refine zq5 ?_ GE217.out|refine zq5 ?_ GE227.out)|exact HB.out)⟩
     ·rw [if_neg c31] at H
      have c31b0:(t216==t226)=false:=by simpa using c31
      (try (have c31b1:decide (t216=t226)=false:=by simpa using c31))
      (try (have c31b2:(t216==t226)=false:=by simpa using c31))
      (try (have c31b3:¬ (t216=t226):=by simpa using c31))
      clear c31
      obtain rfl:=Option.some.inj H
      go_wp2
      go_ret
      exact ⟨by first|rfl|(simp [zq11,zq12]<;>rfl)|(simp [*,zq11,zq12]<;>rfl),by repeat (first|(with_reducible first|exact HB.out|apply zq1|apply zq0|apply zq2|refine zq5 ?_ GE217.out|refine zq5 ?_ GE227.out)|exact HB.out)⟩
    ·replace c30:=Bool.eq_false_iff.mpr c30
     subst c30
     have H1:((impl_MailPut.f kj5 t208 t209 t210 t213).bind fun t230=>(if t230.toList=t207.toList then ((impl_MailOk.f kj5 t208 t209 t210 t213).bind fun t231=>(some t231)) else (some false)))=some r:=by rw [if_neg (show ¬ (false=true) by decide)] at H;exact H
     clear H
     have H:=H1
     clear H1
     replace H:=Option.bind_eq_some_iff.mp H
     obtain ⟨t230,A370,H⟩:=H
     replace H:(if t230.toList=t207.toList then ((impl_MailOk.f kj5 t208 t209 t210 t213).bind fun t231=>(some t231)) else (some false))=some r:=H
     have A37:=Aside0.mk A370
     clear A370
     by_cases c38:t230.toList=t207.toList
     ·rw [if_pos c38] at H
      have c38b0:(t230.toList==t207.toList)=true:=beq_iff_eq.mpr c38
      have c38b1:(t230.toList != t207.toList)=false:=bne_eq_false_iff_eq.mpr c38
      clear c38
      replace H:=Option.bind_eq_some_iff.mp H
      obtain ⟨t231,A390,H⟩:=H
      replace H:(some t231)=some r:=H
      have A39:=Aside0.mk A390
      clear A390
      obtain rfl:=Option.some.inj H
      have hnb40:=NB217_227.out
      have hnc40:=NB227_217.out
      have hcz41_0:wc.cell? ⟨gb217,0,none⟩=some (.string t208):=(zq8 BK217.out 0).trans rfl
      have hcz41_1:wc.cell? ⟨gb217,1,none⟩=some (.string t209):=(zq8 BK217.out 1).trans rfl
      have hcz41_2:wc.cell? ⟨gb217,2,none⟩=some (.slice Ao11 t210.length co11):=(zq8 BK217.out 2).trans rfl
      have hcz41_3:wc.cell? ⟨gb217,3,none⟩=some (.slice Ao12 t213.length co12):=(zq8 BK217.out 3).trans rfl
      have hfz41_0:=zq6 BK217.out 0
      have hfz41_1:=zq6 BK217.out 1
      have hfz41_2:=zq6 BK217.out 2
      have hfz41_3:=zq6 BK217.out 3
      go_wp2_with (first|((with_reducible refine zq14 (f:=7) rfl ?_);refine zq20 (some 45) rfl rfl Tryz.func7 (by kernel_rfl) rfl #[.agg #[.string t208,.string t209,.slice Ao11 t210.length co11,.slice Ao12 t213.length co12]] rfl (by (try simp only [List.map_toArray,List.map_cons,List.map_nil]);first|done|rfl|(simp only [List.length_drop,List.length_take];rfl)) ?_;(with_reducible refine (impl_MailPut.calls kj5 t208 t209 _ _ t210 _ _ t213 t230 _ ?side1 ?side2 ?side3 ?side4 ?side5 A37.out).mono ?_);(case side1=>repeat (first|exact (Kd.R_reads' HO_218002.out).2.2|(with_reducible refine Kd.C_alloc ?_ _)|(with_reducible refine Kd.C_drewN ?_ _)|(with_reducible refine Kd.C_drew ?_)));(case side2=>exact (Kd.R_reads' HO_218002.out).2.1);(case side3=>repeat (first|exact (Kd.R_reads' HO_218003.out).2.2|(with_reducible refine Kd.C_alloc ?_ _)|(with_reducible refine Kd.C_drewN ?_ _)|(with_reducible refine Kd.C_drew ?_)));(case side4=>exact (Kd.R_reads' HO_218003.out).2.1);(case side5=>first|(with_reducible exact HG.out)|((with_reducible repeat (first|exact HG.out|apply GOK.drewN|apply GOK.drew));done)|exact GOK.below HG.out (by repeat (first|(with_reducible first|exact HB.out|apply zq1|apply zq0|apply zq2|refine zq5 ?_ GE217.out|refine zq5 ?_ GE227.out)|exact HB.out)));rintro e w42 ⟨rfl,hb⟩;refine ⟨_,rfl,?_⟩;have n0_:=Aside0.mk (Kd.R_below (by (with_reducible repeat (first|apply Kd.R_alloc|apply Kd.R_drewN|apply Kd.R_drew));exact HO_218002.out) hb);have n1_:=Aside0.mk (Kd.R_below (by (with_reducible repeat (first|apply Kd.R_alloc|apply Kd.R_drewN|apply Kd.R_drew));exact HO_218003.out) hb);have n2_:=Aside0.mk (Kd.R_below (by (with_reducible repeat (first|apply Kd.R_alloc|apply Kd.R_drewN|apply Kd.R_drew));exact HO_228002.out) hb);have n3_:=Aside0.mk (Kd.R_below (by (with_reducible repeat (first|apply Kd.R_alloc|apply Kd.R_drewN|apply Kd.R_drew));exact HO_228003.out) hb);have n4_:=Aside0.mk (zq13 (g:=gb217) (o:=.cells #[.string t208,.string t209,.slice Ao11 t210.length co11,.slice Ao12 t213.length co12] 28 (0,0)) (by (with_reducible repeat (first|refine zq4 ?_ _|refine zq7 ?_|refine zq3 ?_ _));exact BK217.out) hb);have n5_:=Aside0.mk (zq13 (g:=gb227) (o:=.cells #[.string t218,.string t219,.slice Ao17 t220.length co17,.slice Ao18 t223.length co18] 28 (0,0)) (by (with_reducible repeat (first|refine zq4 ?_ _|refine zq7 ?_|refine zq3 ?_ _));exact BK227.out) hb);have n6_:=Aside0.mk (zq9 (by repeat (first|(with_reducible first|exact HB.out|apply zq1|apply zq0|apply zq2|refine zq5 ?_ GE217.out|refine zq5 ?_ GE227.out)|exact HB.out)) hb);clear HO_218002;clear HO_218003;clear HO_228002;clear HO_228003;clear BK217;clear BK227;clear HB;have HO_218002:=n0_;have HO_218003:=n1_;have HO_228002:=n2_;have HO_228003:=n3_;have BK217:=n4_;have BK227:=n5_;have HB:=n6_;clear n0_ n1_ n2_ n3_ n4_ n5_ n6_;(try clear hb);(try clear hb2);(try clear hk);(try clear hi);have hcz43_0:w42.cell? ⟨gb217,0,none⟩=some (.string t208):=(zq8 BK217.out 0).trans rfl;have hcz43_1:w42.cell? ⟨gb217,1,none⟩=some (.string t209):=(zq8 BK217.out 1).trans rfl;have hcz43_2:w42.cell? ⟨gb217,2,none⟩=some (.slice Ao11 t210.length co11):=(zq8 BK217.out 2).trans rfl;have hcz43_3:w42.cell? ⟨gb217,3,none⟩=some (.slice Ao12 t213.length co12):=(zq8 BK217.out 3).trans rfl;have hfz43_0:=zq6 BK217.out 0;have hfz43_1:=zq6 BK217.out 1;have hfz43_2:=zq6 BK217.out 2;have hfz43_3:=zq6 BK217.out 3)|(go_at_call 9;(with_reducible refine (impl_MailOk.calls kj5 t208 t209 _ _ t210 _ _ t213 t231 _ ?side1 ?side2 ?side3 ?side4 ?side5 A39.out).mono ?_);(case side1=>repeat (first|exact (Kd.R_reads' HO_218002.out).2.2|(with_reducible refine Kd.C_alloc ?_ _)|(with_reducible refine Kd.C_drewN ?_ _)|(with_reducible refine Kd.C_drew ?_)));(case side2=>exact (Kd.R_reads' HO_218002.out).2.1);(case side3=>repeat (first|exact (Kd.R_reads' HO_218003.out).2.2|(with_reducible refine Kd.C_alloc ?_ _)|(with_reducible refine Kd.C_drewN ?_ _)|(with_reducible refine Kd.C_drew ?_)));(case side4=>exact (Kd.R_reads' HO_218003.out).2.1);(case side5=>first|(with_reducible exact HG.out)|((with_reducible repeat (first|exact HG.out|apply GOK.drewN|apply GOK.drew));done)|exact GOK.below HG.out (by repeat (first|(with_reducible first|exact HB.out|apply zq1|apply zq0|apply zq2|refine zq5 ?_ GE217.out|refine zq5 ?_ GE227.out)|exact HB.out)));rintro e w44 ⟨rfl,hb⟩;have n0_:=Aside0.mk (Kd.R_below (by (with_reducible repeat (first|apply Kd.R_alloc|apply Kd.R_drewN|apply Kd.R_drew));exact HO_218002.out) hb);have n1_:=Aside0.mk (Kd.R_below (by (with_reducible repeat (first|apply Kd.R_alloc|apply Kd.R_drewN|apply Kd.R_drew));exact HO_218003.out) hb);have n2_:=Aside0.mk (Kd.R_below (by (with_reducible repeat (first|apply Kd.R_alloc|apply Kd.R_drewN|apply Kd.R_drew));exact HO_228002.out) hb);have n3_:=Aside0.mk (Kd.R_below (by (with_reducible repeat (first|apply Kd.R_alloc|apply Kd.R_drewN|apply Kd.R_drew));exact HO_228003.out) hb);have n4_:=Aside0.mk (zq13 (g:=gb217) (o:=.cells #[.string t208,.string t209,.slice Ao11 t210.length co11,.slice Ao12 t213.length co12] 28 (0,0)) (by (with_reducible repeat (first|refine zq4 ?_ _|refine zq7 ?_|refine zq3 ?_ _));exact BK217.out) hb);have n5_:=Aside0.mk (zq13 (g:=gb227) (o:=.cells #[.string t218,.string t219,.slice Ao17 t220.length co17,.slice Ao18 t223.length co18] 28 (0,0)) (by (with_reducible repeat (first|refine zq4 ?_ _|refine zq7 ?_|refine zq3 ?_ _));exact BK227.out) hb);have n6_:=Aside0.mk (zq9 (by repeat (first|(with_reducible first|exact HB.out|apply zq1|apply zq0|apply zq2|refine zq5 ?_ GE217.out|refine zq5 ?_ GE227.out)|exact HB.out)) hb);clear HO_218002;clear HO_218003;clear HO_228002;clear HO_228003;clear BK217;clear BK227;clear HB;have HO_218002:=n0_;have HO_218003:=n1_;have HO_228002:=n2_;have HO_228003:=n3_;have BK217:=n4_;have BK227:=n5_;have HB:=n6_;clear n0_ n1_ n2_ n3_ n4_ n5_ n6_;(try clear hb);(try clear hb2);(try clear hk);(try clear hi)))
      go_ret
      exact ⟨by first|rfl|(simp [zq11,zq12]<;>rfl)|(simp [*,zq11,zq12]<;>rfl),by repeat (first|(with_reducible first|exact HB.out|apply zq1|apply zq0|apply zq2|refine zq5 ?_ GE217.out|refine zq5 ?_ GE227.out)|exact HB.out)⟩
     ·rw [if_neg c38] at H
      have c38b0:(t230.toList==t207.toList)=false:=beq_eq_false_iff_ne.mpr c38
      have c38b1:(t230.toList != t207.toList)=true:=bne_iff_ne.mpr c38
      obtain rfl:=Option.some.inj H
      have hnb45:=NB217_227.out
      have hnc45:=NB227_217.out
      have hcz46_0:wc.cell? ⟨gb217,0,none⟩=some (.string t208):=(zq8 BK217.out 0).trans rfl
      have hcz46_1:wc.cell? ⟨gb217,1,none⟩=some (.string t209):=(zq8 BK217.out 1).trans rfl
      have hcz46_2:wc.cell? ⟨gb217,2,none⟩=some (.slice Ao11 t210.length co11):=(zq8 BK217.out 2).trans rfl
      have hcz46_3:wc.cell? ⟨gb217,3,none⟩=some (.slice Ao12 t213.length co12):=(zq8 BK217.out 3).trans rfl
      have hfz46_0:=zq6 BK217.out 0
      have hfz46_1:=zq6 BK217.out 1
      have hfz46_2:=zq6 BK217.out 2
      have hfz46_3:=zq6 BK217.out 3
      go_wp2_with (first|((with_reducible refine zq14 (f:=7) rfl ?_);refine zq20 (some 45) rfl rfl Tryz.func7 (by kernel_rfl) rfl #[.agg #[.string t208,.string t209,.slice Ao11 t210.length co11,.slice Ao12 t213.length co12]] rfl (by (try simp only [List.map_toArray,List.map_cons,List.map_nil]);first|done|rfl|(simp only [List.length_drop,List.length_take];rfl)) ?_;(with_reducible refine (impl_MailPut.calls kj5 t208 t209 _ _ t210 _ _ t213 t230 _ ?side1 ?side2 ?side3 ?side4 ?side5 A37.out).mono ?_);(case side1=>repeat (first|exact (Kd.R_reads' HO_218002.out).2.2|(with_reducible refine Kd.C_alloc ?_ _)|(with_reducible refine Kd.C_drewN ?_ _)|(with_reducible refine Kd.C_drew ?_)));(case side2=>exact (Kd.R_reads' HO_218002.out).2.1);(case side3=>repeat (first|exact (Kd.R_reads' HO_218003.out).2.2|(with_reducible refine Kd.C_alloc ?_ _)|(with_reducible refine Kd.C_drewN ?_ _)|(with_reducible refine Kd.C_drew ?_)));(case side4=>exact (Kd.R_reads' HO_218003.out).2.1);(case side5=>first|(with_reducible exact HG.out)|((with_reducible repeat (first|exact HG.out|apply GOK.drewN|apply GOK.drew));done)|exact GOK.below HG.out (by repeat (first|(with_reducible first|exact HB.out|apply zq1|apply zq0|apply zq2|refine zq5 ?_ GE217.out|refine zq5 ?_ GE227.out)|exact HB.out)));rintro e w47 ⟨rfl,hb⟩;refine ⟨_,rfl,?_⟩;have n0_:=Aside0.mk (Kd.R_below (by (with_reducible repeat (first|apply Kd.R_alloc|apply Kd.R_drewN|apply Kd.R_drew));exact HO_218002.out) hb);have n1_:=Aside0.mk (Kd.R_below (by (with_reducible repeat (first|apply Kd.R_alloc|apply Kd.R_drewN|apply Kd.R_drew));exact HO_218003.out) hb);have n2_:=Aside0.mk (Kd.R_below (by (with_reducible repeat (first|apply Kd.R_alloc|apply Kd.R_drewN|apply Kd.R_drew));exact HO_228002.out) hb);have n3_:=Aside0.mk (Kd.R_below (by (with_reducible repeat (first|apply Kd.R_alloc|apply Kd.R_drewN|apply Kd.R_drew));exact HO_228003.out) hb);have n4_:=Aside0.mk (zq13 (g:=gb217) (o:=.cells #[.string t208,.string t209,.slice Ao11 t210.length co11,.slice Ao12 t213.length co12] 28 (0,0)) (by (with_reducible repeat (first|refine zq4 ?_ _|refine zq7 ?_|refine zq3 ?_ _));exact BK217.out) hb);have n5_:=Aside0.mk (zq13 (g:=gb227) (o:=.cells #[.string t218,.string t219,.slice Ao17 t220.length co17,.slice Ao18 t223.length co18] 28 (0,0)) (by (with_reducible repeat (first|refine zq4 ?_ _|refine zq7 ?_|refine zq3 ?_ _));exact BK227.out) hb);have n6_:=Aside0.mk (zq9 (by repeat (first|(with_reducible first|exact HB.out|apply zq1|apply zq0|apply zq2|refine zq5 ?_ GE217.out|refine zq5 ?_ GE227.out)|exact HB.out)) hb);clear HO_218002;clear HO_218003;clear HO_228002;clear HO_228003;clear BK217;clear BK227;clear HB;have HO_218002:=n0_;have HO_218003:=n1_;have HO_228002:=n2_;have HO_228003:=n3_;have BK217:=n4_;have BK227:=n5_;have HB:=n6_;clear n0_ n1_ n2_ n3_ n4_ n5_ n6_;(try clear hb);(try clear hb2);(try clear hk);(try clear hi)))
      go_ret
      exact ⟨by first|rfl|(simp [zq11,zq12]<;>rfl)|(simp [*,zq11,zq12]<;>rfl),by repeat (first|(with_reducible first|exact HB.out|apply zq1|apply zq0|apply zq2|refine zq5 ?_ GE217.out|refine zq5 ?_ GE227.out)|exact HB.out)⟩
end Go.Proofs.YthkibaldmjfmmaaGreatDoor.Q
