/- Of a text of ours what this claim needs. -/
import Derived.Test.YtpeefjfklklhdaaDoorZzFnTakesWQ0
import Derived.Test.YtpeefjfklklhdaaDoorZzFnTakesWQ8
import Derived.Test.YtpeefjfklklhdaaDoorZzFnTakesWQ24
import Derived.Test.YtpeefjfklklhdaaDoorZzFnTakesWQ32
import Derived.Test.YtpeefjfklklhdaaDoorZzFnTakesWQ33
import Derived.Test.YtpeefjfklklhdaaDoorZzFnTakesWQ34
import Derived.Test.YtpeefjfklklhdaaDoorZzFnTakesWHSplit
namespace Go.Proofs.YtpeefjfklklhdaaDoor.Q
open Go.RowKit Go.Proofs.YtpeefjfklklhdaaDoorW.PrintWords Go.Proofs.YtpeefjfklklhdaaDoorW.PrintLast Go.Proofs.YtpeefjfklklhdaaDoorW.PrintMore
attribute [local go_sem] max2_int min2_int max_two min_two max_three min_three max_four min_four
set_option linter.unusedVariables false
set_option linter.unusedSimpArgs false
def laws_FnTakes.j0:Nat→Bool→Bool→ByteArray→List ByteArray→List (S69)→ByteArray→ByteArray→Option (Bool)
  | 0,_,_,_,_,_,_,_=>none
  | k+1,x5,x25,x337000,x337001,x337002,x338000,x338001=>if x25=true then ((spec_ConfTakes.f k x337000 x337001 x337002 x338000 x338001).bind fun t340=>(some (x5==t340))) else ((impl_ConfTakes.f k x337000 x337001 x337002 (⟨#[122,122]⟩:ByteArray) x338001).bind fun t341=>(if t341=true then ((impl_ConfOk.f k x337000 x337001 x337002).bind fun t342=>(if t342=true then ((impl_AddrOk.f k x338000 x338001).bind fun t343=>(some t343)) else (some false))) else (some false)))
def laws_FnTakes.f (k:Nat) (l0:List Int):Option (Bool):=if (l0.length:Int) > 1048576 then (some true) else ((spec_DrawConfTakes.f k l0).bind fun bt327=>((impl_ConfTakes.f k bt327.1 bt327.2.1 bt327.2.2.1 bt327.2.2.2.1 bt327.2.2.2.2).bind fun t338=>((spec_ConfTakes.f k bt327.1 bt327.2.1 bt327.2.2.1 bt327.2.2.2.1 bt327.2.2.2.2).bind fun t339=>(if (t338 != t339)=true then (laws_FnTakes.j0 k t338 true bt327.1 bt327.2.1 bt327.2.2.1 bt327.2.2.2.1 bt327.2.2.2.2) else (laws_FnTakes.j0 k t338 (!t338) bt327.1 bt327.2.1 bt327.2.2.1 bt327.2.2.2.1 bt327.2.2.2.2)))))
set_option maxHeartbeats 8000000 in
set_option maxRecDepth 100000 in
theorem laws_FnTakes.calls (k:Nat) (A0:Option Addr) (c0:Nat) (l0:List Int) (r:Bool) (w:World) (hr0:Kd.C (Kd.int .u8) w A0 l0.length l0) (hc0:l0.length≤c0) (hG:GOK w) (h:laws_FnTakes.f k l0=some r) :
    Calls Tryd.prog 12 #[.slice A0 l0.length c0] w fun e w'=>e=.returned (.bool r)∧Below w.heap.size w w':=by
  have hu56:=Tryd.underlying56
  have hu32:=Tryd.underlying32
  have HR0:=Aside0.mk hr0
  have HC0:=Aside0.mk hc0
  clear hr0 hc0
  have HG:=Aside0.mk hG
  clear hG
  have HB:=Aside0.mk (Below.refl w.heap.size w)
  have H:(if (l0.length:Int) > 1048576 then (some true) else ((spec_DrawConfTakes.f k l0).bind fun bt327=>((impl_ConfTakes.f k bt327.1 bt327.2.1 bt327.2.2.1 bt327.2.2.2.1 bt327.2.2.2.2).bind fun t338=>((spec_ConfTakes.f k bt327.1 bt327.2.1 bt327.2.2.1 bt327.2.2.2.1 bt327.2.2.2.2).bind fun t339=>(if (t338 != t339)=true then (laws_FnTakes.j0 k t338 true bt327.1 bt327.2.1 bt327.2.2.1 bt327.2.2.2.1 bt327.2.2.2.2) else (laws_FnTakes.j0 k t338 (!t338) bt327.1 bt327.2.1 bt327.2.2.1 bt327.2.2.2.1 bt327.2.2.2.2))))))=some r:=h
  clear h
  by_cases c2:(l0.length:Int) > 1048576
  · rw [if_pos c2] at H
    have c2b0:decide (1048576 < (l0.length:Int))=true:=decide_eq_true c2
    have c2b1:decide (1048576 < l0.length)=true:=decide_eq_true (by omega)
    clear c2
    obtain rfl:=Option.some.inj H
    go_enter Tryd.func12,Tryd.ntmps12
    go_wp2
    go_ret
    exact ⟨by first|rfl|(simp [errW_none,errW_some]<;>rfl)|(simp [*,errW_none,errW_some]<;>rfl),by repeat (first|(with_reducible first|exact HB.out|apply below_alloc|apply pw_below_drewN|apply below_drew1)|exact HB.out)⟩
  · rw [if_neg c2] at H
    have c2b0:decide (1048576 < (l0.length:Int))=false:=decide_eq_false c2
    have c2b1:decide (1048576 < l0.length)=false:=decide_eq_false (by omega)
    clear c2
    replace H:=Option.bind_eq_some_iff.mp H
    obtain ⟨⟨t327,t328,t331,t334,t335⟩,A30,H⟩:=H
    replace H:((impl_ConfTakes.f k t327 t328 t331 t334 t335).bind fun t338=>((spec_ConfTakes.f k t327 t328 t331 t334 t335).bind fun t339=>(if (t338 != t339)=true then (laws_FnTakes.j0 k t338 true t327 t328 t331 t334 t335) else (laws_FnTakes.j0 k t338 (!t338) t327 t328 t331 t334 t335))))=some r:=H
    have A3:=Aside0.mk A30
    clear A30
    replace H:=Option.bind_eq_some_iff.mp H
    obtain ⟨t338,A40,H⟩:=H
    replace H:((spec_ConfTakes.f k t327 t328 t331 t334 t335).bind fun t339=>(if (t338 != t339)=true then (laws_FnTakes.j0 k t338 true t327 t328 t331 t334 t335) else (laws_FnTakes.j0 k t338 (!t338) t327 t328 t331 t334 t335)))=some r:=H
    have A4:=Aside0.mk A40
    clear A40
    have HC5:=Aside0.mk H
    clear H
    go_enter Tryd.func12,Tryd.ntmps12
    go_upto_region 5 with (first|((with_reducible refine gate_callee (f:=47) rfl ?_);refine goesL_ (some 11) rfl rfl Tryd.func47 (by kernel_rfl) rfl #[.slice A0 l0.length c0] rfl (by (try simp only [List.map_toArray,List.map_cons,List.map_nil]);first|done|rfl|(simp only [List.length_drop,List.length_take];rfl)) ?_;(with_reducible refine (spec_DrawConfTakes.calls k _ _ l0 t327 t328 t331 t334 t335 _ ?side1 ?side2 A3.out).mono ?_);(case side1=>repeat (first|exact HR0.out|(with_reducible refine Kd.C_alloc ?_ _)|(with_reducible refine Kd.C_drewN ?_ _)|(with_reducible refine Kd.C_drew ?_)));(case side2=>exact HC0.out);rintro e w6 ⟨v329,v332,rfl,ho0,ho1,hb⟩;refine ⟨_,rfl,?_⟩;have n0_:=Aside0.mk (Kd.V_lower (Kd.V_mono (ok':=fun k_=>True) ho0 (fun k_ hk_=>trivial)) (below_size (by repeat (first|(with_reducible first|exact HB.out|apply below_alloc|apply pw_below_drewN|apply below_drew1)|exact HB.out))));have n1_:=Aside0.mk (Kd.V_lower (Kd.V_mono (ok':=fun k_=>True) ho1 (fun k_ hk_=>trivial)) (below_size (by repeat (first|(with_reducible first|exact HB.out|apply below_alloc|apply pw_below_drewN|apply below_drew1)|exact HB.out))));have n2_:=Aside0.mk (below_step (by repeat (first|(with_reducible first|exact HB.out|apply below_alloc|apply pw_below_drewN|apply below_drew1)|exact HB.out)) hb);clear HB;have HO330:=n0_;have HO333:=n1_;have HB:=n2_;clear n0_ n1_ n2_;(try clear hb);(try clear hb2);(try clear hk);(try clear hi);(try clear ho0);(try clear ho1))|((with_reducible refine gate_dst (N:=3) rfl ?_);refine box_event ?hg (N:=3) ?hd (cs:=#[.string (⟨#[]⟩:ByteArray),.slice none 0 0,.slice none 0 0]) (t:=56) ?hr ?_;(case hd=>rfl);(case hg=>rfl);(case hr=>first|(go_simp;done)|(go_simp;rfl));intro gb336 hg w7 hbox hb;have n0_:=Aside0.mk (Kd.V_below (Kd.V_elderB (by (with_reducible repeat (first|apply Kd.V_alloc|apply Kd.V_drewN|apply Kd.V_drew));exact HO330.out) gb336 (Nat.le_of_eq hg.symm)) hb);have n1_:=Aside0.mk (Kd.V_below (Kd.V_elderB (by (with_reducible repeat (first|apply Kd.V_alloc|apply Kd.V_drewN|apply Kd.V_drew));exact HO333.out) gb336 (Nat.le_of_eq hg.symm)) hb);have n2_:=Aside0.mk (below_step (by repeat (first|(with_reducible first|exact HB.out|apply below_alloc|apply pw_below_drewN|apply below_drew1)|exact HB.out)) hb);have n3_:=Aside0.mk (hbox);have n4_:=Aside0.mk ((by rw [hg];exact (below_size (by repeat (first|(with_reducible first|exact HB.out|apply below_alloc|apply pw_below_drewN|apply below_drew1)|exact HB.out))):w.heap.size≤gb336));have n5_:=Aside0.mk ((by rw [hg];exact (below_size (by repeat (first|(with_reducible first|exact HB.out|apply below_alloc|apply pw_below_drewN|apply below_drew1)|exact HB.out))):w.heap.size≤gb336));clear HO330;clear HO333;clear HB;have HO330:=n0_;have HO333:=n1_;have HB:=n2_;have BK336:=n3_;have GW336:=n4_;have GE336:=n5_;clear n0_ n1_ n2_ n3_ n4_ n5_;clear hb hbox hg)|((with_reducible refine gate_dst (N:=4) rfl ?_);refine box_event ?hg (N:=4) ?hd (cs:=#[.string (⟨#[]⟩:ByteArray),.string (⟨#[]⟩:ByteArray)]) (t:=32) ?hr ?_;(case hd=>rfl);(case hg=>rfl);(case hr=>first|(go_simp;done)|(go_simp;rfl));intro gb337 hg w8 hbox hb;have n0_:=Aside0.mk (Kd.V_below (Kd.V_elderB (by (with_reducible repeat (first|apply Kd.V_alloc|apply Kd.V_drewN|apply Kd.V_drew));exact HO330.out) gb337 (Nat.le_of_eq hg.symm)) hb);have n1_:=Aside0.mk (Kd.V_below (Kd.V_elderB (by (with_reducible repeat (first|apply Kd.V_alloc|apply Kd.V_drewN|apply Kd.V_drew));exact HO333.out) gb337 (Nat.le_of_eq hg.symm)) hb);have n2_:=Aside0.mk (blk_below (g:=gb336) (o:=.cells #[.string (⟨#[]⟩:ByteArray),.slice none 0 0,.slice none 0 0] 56 (0,0)) (by (with_reducible repeat (first|refine blk_drewN ?_ _|refine blk_drew ?_|refine blk_alloc ?_ _));exact BK336.out) hb);have n3_:=Aside0.mk (below_step (by repeat (first|(with_reducible first|exact HB.out|apply below_alloc|apply pw_below_drewN|apply below_drew1|refine below_set ?_ GE336.out)|exact HB.out)) hb);have n4_:=Aside0.mk (hbox);have n5_:=Aside0.mk ((by rw [hg];exact (below_size (by repeat (first|(with_reducible first|exact HB.out|apply below_alloc|apply pw_below_drewN|apply below_drew1|refine below_set ?_ GE336.out)|exact HB.out))):w.heap.size≤gb337));have n6_:=Aside0.mk ((by rw [hg];exact (below_size (by repeat (first|(with_reducible first|exact HB.out|apply below_alloc|apply pw_below_drewN|apply below_drew1|refine below_set ?_ GE336.out)|exact HB.out))):w.heap.size≤gb337));have n7_:=Aside0.mk ((by rw [hg];exact Nat.ne_of_lt (blk_lt (g:=gb336) (o:=.cells #[.string (⟨#[]⟩:ByteArray),.slice none 0 0,.slice none 0 0] 56 (0,0)) (by (with_reducible repeat (first|refine blk_drewN ?_ _|refine blk_drew ?_|refine blk_alloc ?_ _));exact BK336.out)):gb336≠gb337));have n8_:=Aside0.mk ((by rw [hg];exact Nat.ne_of_gt (blk_lt (g:=gb336) (o:=.cells #[.string (⟨#[]⟩:ByteArray),.slice none 0 0,.slice none 0 0] 56 (0,0)) (by (with_reducible repeat (first|refine blk_drewN ?_ _|refine blk_drew ?_|refine blk_alloc ?_ _));exact BK336.out)):gb337≠gb336));clear HO330;clear HO333;clear BK336;clear HB;have HO330:=n0_;have HO333:=n1_;have BK336:=n2_;have HB:=n3_;have BK337:=n4_;have GW337:=n5_;have GE337:=n6_;have NB336_337:=n7_;have NB337_336:=n8_;clear n0_ n1_ n2_ n3_ n4_ n5_ n6_ n7_ n8_;clear hb hbox hg;have hnb9:=NB336_337.out;have hnc9:=NB337_336.out;have hcz10_0:w8.cell? ⟨gb336,0,none⟩=some (.string (⟨#[]⟩:ByteArray)):=(blk_cell BK336.out 0).trans rfl;have hcz10_1:w8.cell? ⟨gb336,1,none⟩=some (.slice none 0 0):=(blk_cell BK336.out 1).trans rfl;have hcz10_2:w8.cell? ⟨gb336,2,none⟩=some (.slice none 0 0):=(blk_cell BK336.out 2).trans rfl;have hfz10_0:=blk_frozen BK336.out 0;have hfz10_1:=blk_frozen BK336.out 1;have hfz10_2:=blk_frozen BK336.out 2;obtain ⟨Ao11,co11,eo11⟩:=Kd.V_slice HO330.out;subst eo11;obtain ⟨Ao12,co12,eo12⟩:=Kd.V_slice HO333.out;subst eo12;have hcz13_0:w8.cell? ⟨gb337,0,none⟩=some (.string (⟨#[]⟩:ByteArray)):=(blk_cell BK337.out 0).trans rfl;have hcz13_1:w8.cell? ⟨gb337,1,none⟩=some (.string (⟨#[]⟩:ByteArray)):=(blk_cell BK337.out 1).trans rfl;have hfz13_0:=blk_frozen BK337.out 0;have hfz13_1:=blk_frozen BK337.out 1)|((with_reducible refine gate_callee (f:=48) rfl ?_);refine goesL_ (some 16) rfl rfl Tryd.func48 (by kernel_rfl) rfl #[.agg #[.string t327,.slice Ao11 t328.length co11,.slice Ao12 t331.length co12],.agg #[.string t334,.string t335]] rfl (by (try simp only [List.map_toArray,List.map_cons,List.map_nil]);first|done|rfl|(simp only [List.length_drop,List.length_take];rfl)) ?_;(with_reducible refine (impl_ConfTakes.calls k t327 _ _ t328 _ _ t331 t334 t335 t338 _ ?side1 ?side2 ?side3 ?side4 ?side5 A4.out).mono ?_);(case side1=>refine (Kd.V_reads' (e:=9) (base:=w.heap.size) (ok:=fun k_=>((True∧k_≠gb336)∧k_≠gb337)) (n:=t328.length) (c:=co11) ?_).2.2;exact (by (with_reducible repeat (first|apply Kd.V_alloc|apply Kd.V_drewN|apply Kd.V_drew));exact (Kd.V_mono (Kd.V_mono (Kd.V_far (p:=⟨gb337,1,none⟩) (Kd.V_far (p:=⟨gb337,0,none⟩) (Kd.V_far (p:=⟨gb336,2,none⟩) (Kd.V_far (p:=⟨gb336,1,none⟩) (Kd.V_far (p:=⟨gb336,0,none⟩) (Kd.V_mono (Kd.V_mono HO330.out (fun k_ hk=>(⟨hk,hk.1.2⟩:_∧k_≠gb336))) (fun k_ hk=>(⟨hk,hk.1.2⟩:_∧k_≠gb337))) (fun _ hk=>hk.1.2) (.string t327)) (fun _ hk=>hk.1.2) (.slice Ao11 t328.length co11)) (fun _ hk=>hk.1.2) (.slice Ao12 t331.length co12)) (fun _ hk=>hk.2) (.string t334)) (fun _ hk=>hk.2) (.string t335)) (fun _ h_=>h_.1)) (fun _ h_=>h_.1))));(case side2=>exact (Kd.V_reads' HO330.out).2.1);(case side3=>refine (Kd.V_reads' (e:=69) (base:=w.heap.size) (ok:=fun k_=>((True∧k_≠gb336)∧k_≠gb337)) (n:=t331.length) (c:=co12) ?_).2.2;exact (by (with_reducible repeat (first|apply Kd.V_alloc|apply Kd.V_drewN|apply Kd.V_drew));exact (Kd.V_mono (Kd.V_mono (Kd.V_far (p:=⟨gb337,1,none⟩) (Kd.V_far (p:=⟨gb337,0,none⟩) (Kd.V_far (p:=⟨gb336,2,none⟩) (Kd.V_far (p:=⟨gb336,1,none⟩) (Kd.V_far (p:=⟨gb336,0,none⟩) (Kd.V_mono (Kd.V_mono HO333.out (fun k_ hk=>(⟨hk,hk.1.2⟩:_∧k_≠gb336))) (fun k_ hk=>(⟨hk,hk.1.2⟩:_∧k_≠gb337))) (fun _ hk=>hk.1.2) (.string t327)) (fun _ hk=>hk.1.2) (.slice Ao11 t328.length co11)) (fun _ hk=>hk.1.2) (.slice Ao12 t331.length co12)) (fun _ hk=>hk.2) (.string t334)) (fun _ hk=>hk.2) (.string t335)) (fun _ h_=>h_.1)) (fun _ h_=>h_.1))));(case side4=>exact (Kd.V_reads' HO333.out).2.1);(case side5=>first|(with_reducible exact HG.out)|((with_reducible repeat (first|exact HG.out|apply GOK.drewN|apply GOK.drew));done)|exact GOK.below HG.out (by repeat (first|(with_reducible first|exact HB.out|apply below_alloc|apply pw_below_drewN|apply below_drew1|refine below_set ?_ GE336.out|refine below_set ?_ GE337.out)|exact HB.out)));rintro e w14 ⟨rfl,hb⟩;refine ⟨_,rfl,?_⟩;have n0_:=Aside0.mk (Kd.V_below (by (with_reducible repeat (first|apply Kd.V_alloc|apply Kd.V_drewN|apply Kd.V_drew));exact (Kd.V_mono (Kd.V_mono (Kd.V_far (p:=⟨gb337,1,none⟩) (Kd.V_far (p:=⟨gb337,0,none⟩) (Kd.V_far (p:=⟨gb336,2,none⟩) (Kd.V_far (p:=⟨gb336,1,none⟩) (Kd.V_far (p:=⟨gb336,0,none⟩) (Kd.V_mono (Kd.V_mono HO330.out (fun k_ hk=>(⟨hk,hk.1.2⟩:_∧k_≠gb336))) (fun k_ hk=>(⟨hk,hk.1.2⟩:_∧k_≠gb337))) (fun _ hk=>hk.1.2) (.string t327)) (fun _ hk=>hk.1.2) (.slice Ao11 t328.length co11)) (fun _ hk=>hk.1.2) (.slice Ao12 t331.length co12)) (fun _ hk=>hk.2) (.string t334)) (fun _ hk=>hk.2) (.string t335)) (fun _ h_=>h_.1)) (fun _ h_=>h_.1))) hb);have n1_:=Aside0.mk (Kd.V_below (by (with_reducible repeat (first|apply Kd.V_alloc|apply Kd.V_drewN|apply Kd.V_drew));exact (Kd.V_mono (Kd.V_mono (Kd.V_far (p:=⟨gb337,1,none⟩) (Kd.V_far (p:=⟨gb337,0,none⟩) (Kd.V_far (p:=⟨gb336,2,none⟩) (Kd.V_far (p:=⟨gb336,1,none⟩) (Kd.V_far (p:=⟨gb336,0,none⟩) (Kd.V_mono (Kd.V_mono HO333.out (fun k_ hk=>(⟨hk,hk.1.2⟩:_∧k_≠gb336))) (fun k_ hk=>(⟨hk,hk.1.2⟩:_∧k_≠gb337))) (fun _ hk=>hk.1.2) (.string t327)) (fun _ hk=>hk.1.2) (.slice Ao11 t328.length co11)) (fun _ hk=>hk.1.2) (.slice Ao12 t331.length co12)) (fun _ hk=>hk.2) (.string t334)) (fun _ hk=>hk.2) (.string t335)) (fun _ h_=>h_.1)) (fun _ h_=>h_.1))) hb);have n2_:=Aside0.mk (blk_below (g:=gb336) (o:=.cells #[.string t327,.slice Ao11 t328.length co11,.slice Ao12 t331.length co12] 56 (0,0)) (by (with_reducible repeat (first|refine blk_drewN ?_ _|refine blk_drew ?_|refine blk_alloc ?_ _));refine blk_far ?_ NB336_337.out _;(with_reducible repeat (first|refine blk_drewN ?_ _|refine blk_drew ?_|refine blk_alloc ?_ _));refine blk_far ?_ NB336_337.out _;(with_reducible repeat (first|refine blk_drewN ?_ _|refine blk_drew ?_|refine blk_alloc ?_ _));refine blk_put (cs:=#[.string t327,.slice Ao11 t328.length co11,.slice none 0 0]) ?_ 2 _ rfl;(with_reducible repeat (first|refine blk_drewN ?_ _|refine blk_drew ?_|refine blk_alloc ?_ _));refine blk_put (cs:=#[.string t327,.slice none 0 0,.slice none 0 0]) ?_ 1 _ rfl;(with_reducible repeat (first|refine blk_drewN ?_ _|refine blk_drew ?_|refine blk_alloc ?_ _));refine blk_put (cs:=#[.string (⟨#[]⟩:ByteArray),.slice none 0 0,.slice none 0 0]) ?_ 0 _ rfl;(with_reducible repeat (first|refine blk_drewN ?_ _|refine blk_drew ?_|refine blk_alloc ?_ _));exact BK336.out) hb);have n3_:=Aside0.mk (blk_below (g:=gb337) (o:=.cells #[.string t334,.string t335] 32 (0,0)) (by (with_reducible repeat (first|refine blk_drewN ?_ _|refine blk_drew ?_|refine blk_alloc ?_ _));refine blk_put (cs:=#[.string t334,.string (⟨#[]⟩:ByteArray)]) ?_ 1 _ rfl;(with_reducible repeat (first|refine blk_drewN ?_ _|refine blk_drew ?_|refine blk_alloc ?_ _));refine blk_put (cs:=#[.string (⟨#[]⟩:ByteArray),.string (⟨#[]⟩:ByteArray)]) ?_ 0 _ rfl;(with_reducible repeat (first|refine blk_drewN ?_ _|refine blk_drew ?_|refine blk_alloc ?_ _));refine blk_far ?_ NB337_336.out _;(with_reducible repeat (first|refine blk_drewN ?_ _|refine blk_drew ?_|refine blk_alloc ?_ _));refine blk_far ?_ NB337_336.out _;(with_reducible repeat (first|refine blk_drewN ?_ _|refine blk_drew ?_|refine blk_alloc ?_ _));refine blk_far ?_ NB337_336.out _;(with_reducible repeat (first|refine blk_drewN ?_ _|refine blk_drew ?_|refine blk_alloc ?_ _));exact BK337.out) hb);have n4_:=Aside0.mk (below_step (by repeat (first|(with_reducible first|exact HB.out|apply below_alloc|apply pw_below_drewN|apply below_drew1|refine below_set ?_ GE336.out|refine below_set ?_ GE337.out)|exact HB.out)) hb);clear HO330;clear HO333;clear BK336;clear BK337;clear HB;have HO330:=n0_;have HO333:=n1_;have BK336:=n2_;have BK337:=n3_;have HB:=n4_;clear n0_ n1_ n2_ n3_ n4_;(try clear hb);(try clear hb2);(try clear hk);(try clear hi)))
    (try simp only [Act.put,List.setIfInBounds_toArray,List.set_cons_zero,List.set_cons_succ])
    go_cut [25] (fun v25 wc=>∃ (kq:Nat) (x25_4:Bool),v25=.bool x25_4∧Aside0 (laws_FnTakes.j0 kq t338 x25_4 t327 t328 t331 t334 t335=some r)∧Aside0 (kq≤k)∧Aside0 (Kd.V Kd.string 9 wc w.heap.size (fun k_=>k_≠gb336∧k_≠gb337) (.slice Ao11 t328.length co11) t328)∧Aside0 (Kd.V k69 69 wc w.heap.size (fun k_=>k_≠gb336∧k_≠gb337) (.slice Ao12 t331.length co12) t331)∧Aside0 (wc.heap[gb336]?=some (.cells #[.string t327,(.slice Ao11 t328.length co11),(.slice Ao12 t331.length co12)] 56 (0,0)))∧Aside0 (wc.heap[gb337]?=some (.cells #[.string t334,.string t335] 32 (0,0)))∧Aside0 (Below w.heap.size w wc))
    case first =>
      have H:=HC5.out
      clear HC5
      replace H:=Option.bind_eq_some_iff.mp H
      obtain ⟨t339,A150,H⟩:=H
      replace H:(if (t338 != t339)=true then (laws_FnTakes.j0 k t338 true t327 t328 t331 t334 t335) else (laws_FnTakes.j0 k t338 (!t338) t327 t328 t331 t334 t335))=some r:=H
      have A15:=Aside0.mk A150
      clear A150
      by_cases c16:(t338 != t339)=true
      · rw [if_pos c16] at H
        have c16b0:(t338 != t339)=true:=c16
        (try (have c16b1:decide (t338=t339)=false:=by simpa using c16))
        (try (have c16b2:(t338==t339)=false:=by simpa using c16))
        (try (have c16b3:¬ (t338=t339):=by simpa using c16))
        clear c16
        (first|rw [c16b0]|(simp only [i64_w,i32_w];rw [c16b0])|skip)
        have H':=Aside0.mk H
        clear H
        have hnb17:=NB336_337.out
        have hnc17:=NB337_336.out
        have hcz18_0:w14.cell? ⟨gb336,0,none⟩=some (.string t327):=(blk_cell BK336.out 0).trans rfl
        have hcz18_1:w14.cell? ⟨gb336,1,none⟩=some (.slice Ao11 t328.length co11):=(blk_cell BK336.out 1).trans rfl
        have hcz18_2:w14.cell? ⟨gb336,2,none⟩=some (.slice Ao12 t331.length co12):=(blk_cell BK336.out 2).trans rfl
        have hfz18_0:=blk_frozen BK336.out 0
        have hfz18_1:=blk_frozen BK336.out 1
        have hfz18_2:=blk_frozen BK336.out 2
        have hcz19_0:w14.cell? ⟨gb337,0,none⟩=some (.string t334):=(blk_cell BK337.out 0).trans rfl
        have hcz19_1:w14.cell? ⟨gb337,1,none⟩=some (.string t335):=(blk_cell BK337.out 1).trans rfl
        have hfz19_0:=blk_frozen BK337.out 0
        have hfz19_1:=blk_frozen BK337.out 1
        go_wp2_with (first|((with_reducible refine gate_callee (f:=49) rfl ?_);refine goesL_ (some 20) rfl rfl Tryd.func49 (by kernel_rfl) rfl #[.agg #[.string t327,.slice Ao11 t328.length co11,.slice Ao12 t331.length co12],.agg #[.string t334,.string t335]] rfl (by (try simp only [List.map_toArray,List.map_cons,List.map_nil]);first|done|rfl|(simp only [List.length_drop,List.length_take];rfl)) ?_;(with_reducible refine (spec_ConfTakes.calls k t327 _ _ t328 _ _ t331 t334 t335 t339 _ ?side1 ?side2 ?side3 ?side4 A15.out).mono ?_);(case side1=>repeat (first|exact (Kd.V_reads' HO330.out).2.2|(with_reducible refine Kd.C_alloc ?_ _)|(with_reducible refine Kd.C_drewN ?_ _)|(with_reducible refine Kd.C_drew ?_)));(case side2=>exact (Kd.V_reads' HO330.out).2.1);(case side3=>repeat (first|exact (Kd.V_reads' HO333.out).2.2|(with_reducible refine Kd.C_alloc ?_ _)|(with_reducible refine Kd.C_drewN ?_ _)|(with_reducible refine Kd.C_drew ?_)));(case side4=>exact (Kd.V_reads' HO333.out).2.1);rintro e w20 ⟨rfl,hb⟩;refine ⟨_,rfl,?_⟩;have n0_:=Aside0.mk (Kd.V_below (by (with_reducible repeat (first|apply Kd.V_alloc|apply Kd.V_drewN|apply Kd.V_drew));exact HO330.out) hb);have n1_:=Aside0.mk (Kd.V_below (by (with_reducible repeat (first|apply Kd.V_alloc|apply Kd.V_drewN|apply Kd.V_drew));exact HO333.out) hb);have n2_:=Aside0.mk (blk_below (g:=gb336) (o:=.cells #[.string t327,.slice Ao11 t328.length co11,.slice Ao12 t331.length co12] 56 (0,0)) (by (with_reducible repeat (first|refine blk_drewN ?_ _|refine blk_drew ?_|refine blk_alloc ?_ _));exact BK336.out) hb);have n3_:=Aside0.mk (blk_below (g:=gb337) (o:=.cells #[.string t334,.string t335] 32 (0,0)) (by (with_reducible repeat (first|refine blk_drewN ?_ _|refine blk_drew ?_|refine blk_alloc ?_ _));exact BK337.out) hb);have n4_:=Aside0.mk (below_step (by repeat (first|(with_reducible first|exact HB.out|apply below_alloc|apply pw_below_drewN|apply below_drew1|refine below_set ?_ GE336.out|refine below_set ?_ GE337.out)|exact HB.out)) hb);clear HO330;clear HO333;clear BK336;clear BK337;clear HB;have HO330:=n0_;have HO333:=n1_;have BK336:=n2_;have BK337:=n3_;have HB:=n4_;clear n0_ n1_ n2_ n3_ n4_;(try clear hb);(try clear hb2);(try clear hk);(try clear hi)))
        go_meet
        case rel=>exact ⟨_,(true),(by first|rfl|(simp;done)|(simp [*];done)),H',⟨by first|omega|exact Nat.le_refl _⟩,⟨by (with_reducible repeat (first|apply Kd.V_alloc|apply Kd.V_drewN|apply Kd.V_drew));exact Kd.V_mono HO330.out (fun _ hk=>⟨hk.1.2,hk.2⟩)⟩,⟨by (with_reducible repeat (first|apply Kd.V_alloc|apply Kd.V_drewN|apply Kd.V_drew));exact Kd.V_mono HO333.out (fun _ hk=>⟨hk.1.2,hk.2⟩)⟩,⟨by (with_reducible repeat (first|refine blk_drewN ?_ _|refine blk_drew ?_|refine blk_alloc ?_ _));exact BK336.out⟩,⟨by (with_reducible repeat (first|refine blk_drewN ?_ _|refine blk_drew ?_|refine blk_alloc ?_ _));exact BK337.out⟩,⟨by repeat (first|(with_reducible first|exact HB.out|apply below_alloc|apply pw_below_drewN|apply below_drew1|refine below_set ?_ GE336.out|refine below_set ?_ GE337.out)|exact HB.out)⟩⟩
      · rw [if_neg c16] at H
        have c16b0:(t338 != t339)=false:=by simpa using c16
        (try (have c16b1:decide (t338=t339)=true:=by simpa using c16))
        (try (have c16b2:(t338==t339)=true:=by simpa using c16))
        clear c16
        (first|rw [c16b0]|(simp only [i64_w,i32_w];rw [c16b0])|skip)
        have H':=Aside0.mk H
        clear H
        have hnb21:=NB336_337.out
        have hnc21:=NB337_336.out
        have hcz22_0:w14.cell? ⟨gb336,0,none⟩=some (.string t327):=(blk_cell BK336.out 0).trans rfl
        have hcz22_1:w14.cell? ⟨gb336,1,none⟩=some (.slice Ao11 t328.length co11):=(blk_cell BK336.out 1).trans rfl
        have hcz22_2:w14.cell? ⟨gb336,2,none⟩=some (.slice Ao12 t331.length co12):=(blk_cell BK336.out 2).trans rfl
        have hfz22_0:=blk_frozen BK336.out 0
        have hfz22_1:=blk_frozen BK336.out 1
        have hfz22_2:=blk_frozen BK336.out 2
        have hcz23_0:w14.cell? ⟨gb337,0,none⟩=some (.string t334):=(blk_cell BK337.out 0).trans rfl
        have hcz23_1:w14.cell? ⟨gb337,1,none⟩=some (.string t335):=(blk_cell BK337.out 1).trans rfl
        have hfz23_0:=blk_frozen BK337.out 0
        have hfz23_1:=blk_frozen BK337.out 1
        go_wp2_with (first|((with_reducible refine gate_callee (f:=49) rfl ?_);refine goesL_ (some 20) rfl rfl Tryd.func49 (by kernel_rfl) rfl #[.agg #[.string t327,.slice Ao11 t328.length co11,.slice Ao12 t331.length co12],.agg #[.string t334,.string t335]] rfl (by (try simp only [List.map_toArray,List.map_cons,List.map_nil]);first|done|rfl|(simp only [List.length_drop,List.length_take];rfl)) ?_;(with_reducible refine (spec_ConfTakes.calls k t327 _ _ t328 _ _ t331 t334 t335 t339 _ ?side1 ?side2 ?side3 ?side4 A15.out).mono ?_);(case side1=>repeat (first|exact (Kd.V_reads' HO330.out).2.2|(with_reducible refine Kd.C_alloc ?_ _)|(with_reducible refine Kd.C_drewN ?_ _)|(with_reducible refine Kd.C_drew ?_)));(case side2=>exact (Kd.V_reads' HO330.out).2.1);(case side3=>repeat (first|exact (Kd.V_reads' HO333.out).2.2|(with_reducible refine Kd.C_alloc ?_ _)|(with_reducible refine Kd.C_drewN ?_ _)|(with_reducible refine Kd.C_drew ?_)));(case side4=>exact (Kd.V_reads' HO333.out).2.1);rintro e w24 ⟨rfl,hb⟩;refine ⟨_,rfl,?_⟩;have n0_:=Aside0.mk (Kd.V_below (by (with_reducible repeat (first|apply Kd.V_alloc|apply Kd.V_drewN|apply Kd.V_drew));exact HO330.out) hb);have n1_:=Aside0.mk (Kd.V_below (by (with_reducible repeat (first|apply Kd.V_alloc|apply Kd.V_drewN|apply Kd.V_drew));exact HO333.out) hb);have n2_:=Aside0.mk (blk_below (g:=gb336) (o:=.cells #[.string t327,.slice Ao11 t328.length co11,.slice Ao12 t331.length co12] 56 (0,0)) (by (with_reducible repeat (first|refine blk_drewN ?_ _|refine blk_drew ?_|refine blk_alloc ?_ _));exact BK336.out) hb);have n3_:=Aside0.mk (blk_below (g:=gb337) (o:=.cells #[.string t334,.string t335] 32 (0,0)) (by (with_reducible repeat (first|refine blk_drewN ?_ _|refine blk_drew ?_|refine blk_alloc ?_ _));exact BK337.out) hb);have n4_:=Aside0.mk (below_step (by repeat (first|(with_reducible first|exact HB.out|apply below_alloc|apply pw_below_drewN|apply below_drew1|refine below_set ?_ GE336.out|refine below_set ?_ GE337.out)|exact HB.out)) hb);clear HO330;clear HO333;clear BK336;clear BK337;clear HB;have HO330:=n0_;have HO333:=n1_;have BK336:=n2_;have BK337:=n3_;have HB:=n4_;clear n0_ n1_ n2_ n3_ n4_;(try clear hb);(try clear hb2);(try clear hk);(try clear hi)))
        go_meet
        case rel=>exact ⟨_,(!t338),(by first|rfl|(simp;done)|(simp [*];done)),H',⟨by first|omega|exact Nat.le_refl _⟩,⟨by (with_reducible repeat (first|apply Kd.V_alloc|apply Kd.V_drewN|apply Kd.V_drew));exact Kd.V_mono HO330.out (fun _ hk=>⟨hk.1.2,hk.2⟩)⟩,⟨by (with_reducible repeat (first|apply Kd.V_alloc|apply Kd.V_drewN|apply Kd.V_drew));exact Kd.V_mono HO333.out (fun _ hk=>⟨hk.1.2,hk.2⟩)⟩,⟨by (with_reducible repeat (first|refine blk_drewN ?_ _|refine blk_drew ?_|refine blk_alloc ?_ _));exact BK336.out⟩,⟨by (with_reducible repeat (first|refine blk_drewN ?_ _|refine blk_drew ?_|refine blk_alloc ?_ _));exact BK337.out⟩,⟨by repeat (first|(with_reducible first|exact HB.out|apply below_alloc|apply pw_below_drewN|apply below_drew1|refine below_set ?_ GE336.out|refine below_set ?_ GE337.out)|exact HB.out)⟩⟩
    case rest =>
      clear HC5
      try clear c1
      try clear c2
      try clear c2b0
      try clear c2b1
      try clear p2
      try clear c4
      try clear c9
      try clear c12
      try clear c16
      try clear c16b0
      try clear c16b1
      try clear c16b2
      try clear c17
      try clear c21
      try clear hcz10_0
      try clear hcz10_1
      try clear hcz10_2
      try clear hcz13_0
      try clear hcz13_1
      try clear hcz18_0
      try clear hcz18_1
      try clear hcz18_2
      try clear hcz19_0
      try clear hcz19_1
      try clear hcz22_0
      try clear hcz22_1
      try clear hcz22_2
      try clear hcz23_0
      try clear hcz23_1
      try clear hfz10_0
      try clear hfz10_1
      try clear hfz10_2
      try clear hfz13_0
      try clear hfz13_1
      try clear hfz18_0
      try clear hfz18_1
      try clear hfz18_2
      try clear hfz19_0
      try clear hfz19_1
      try clear hfz22_0
      try clear hfz22_1
      try clear hfz22_2
      try clear hfz23_0
      try clear hfz23_1
      obtain ⟨kq,x25_4,rfl,HA,HJ4,HO_337001,HO_337002,BK336,BK337,HB⟩:=hcut
      cases kq with
      | zero=>exact absurd HA.out (by simp [laws_FnTakes.j0])
      | succ kj4 =>
        have H:=HA.out
        clear HA
        simp only [laws_FnTakes.j0] at H
        by_cases c25:x25_4=true
        · subst c25
          have H1:((spec_ConfTakes.f kj4 t327 t328 t331 t334 t335).bind fun t340=>(some (t338==t340)))=some r:=by rw [if_pos rfl] at H;exact H
          clear H
          have H:=H1
          clear H1
          replace H:=Option.bind_eq_some_iff.mp H
          obtain ⟨t340,A260,H⟩:=H
          replace H:(some (t338==t340))=some r:=H
          have A26:=Aside0.mk A260
          clear A260
          obtain rfl:=Option.some.inj H
          have hnb27:=NB336_337.out
          have hnc27:=NB337_336.out
          have hcz28_0:wc.cell? ⟨gb336,0,none⟩=some (.string t327):=(blk_cell BK336.out 0).trans rfl
          have hcz28_1:wc.cell? ⟨gb336,1,none⟩=some (.slice Ao11 t328.length co11):=(blk_cell BK336.out 1).trans rfl
          have hcz28_2:wc.cell? ⟨gb336,2,none⟩=some (.slice Ao12 t331.length co12):=(blk_cell BK336.out 2).trans rfl
          have hfz28_0:=blk_frozen BK336.out 0
          have hfz28_1:=blk_frozen BK336.out 1
          have hfz28_2:=blk_frozen BK336.out 2
          have hcz29_0:wc.cell? ⟨gb337,0,none⟩=some (.string t334):=(blk_cell BK337.out 0).trans rfl
          have hcz29_1:wc.cell? ⟨gb337,1,none⟩=some (.string t335):=(blk_cell BK337.out 1).trans rfl
          have hfz29_0:=blk_frozen BK337.out 0
          have hfz29_1:=blk_frozen BK337.out 1
          go_wp2_with (first|((with_reducible refine gate_callee (f:=49) rfl ?_);refine goesL_ (some 29) rfl rfl Tryd.func49 (by kernel_rfl) rfl #[.agg #[.string t327,.slice Ao11 t328.length co11,.slice Ao12 t331.length co12],.agg #[.string t334,.string t335]] rfl (by (try simp only [List.map_toArray,List.map_cons,List.map_nil]);first|done|rfl|(simp only [List.length_drop,List.length_take];rfl)) ?_;(with_reducible refine (spec_ConfTakes.calls kj4 t327 _ _ t328 _ _ t331 t334 t335 t340 _ ?side1 ?side2 ?side3 ?side4 A26.out).mono ?_);(case side1=>repeat (first|exact (Kd.V_reads' HO_337001.out).2.2|(with_reducible refine Kd.C_alloc ?_ _)|(with_reducible refine Kd.C_drewN ?_ _)|(with_reducible refine Kd.C_drew ?_)));(case side2=>exact (Kd.V_reads' HO_337001.out).2.1);(case side3=>repeat (first|exact (Kd.V_reads' HO_337002.out).2.2|(with_reducible refine Kd.C_alloc ?_ _)|(with_reducible refine Kd.C_drewN ?_ _)|(with_reducible refine Kd.C_drew ?_)));(case side4=>exact (Kd.V_reads' HO_337002.out).2.1);rintro e w30 ⟨rfl,hb⟩;refine ⟨_,rfl,?_⟩;have n0_:=Aside0.mk (Kd.V_below (by (with_reducible repeat (first|apply Kd.V_alloc|apply Kd.V_drewN|apply Kd.V_drew));exact HO_337001.out) hb);have n1_:=Aside0.mk (Kd.V_below (by (with_reducible repeat (first|apply Kd.V_alloc|apply Kd.V_drewN|apply Kd.V_drew));exact HO_337002.out) hb);have n2_:=Aside0.mk (blk_below (g:=gb336) (o:=.cells #[.string t327,.slice Ao11 t328.length co11,.slice Ao12 t331.length co12] 56 (0,0)) (by (with_reducible repeat (first|refine blk_drewN ?_ _|refine blk_drew ?_|refine blk_alloc ?_ _));exact BK336.out) hb);have n3_:=Aside0.mk (blk_below (g:=gb337) (o:=.cells #[.string t334,.string t335] 32 (0,0)) (by (with_reducible repeat (first|refine blk_drewN ?_ _|refine blk_drew ?_|refine blk_alloc ?_ _));exact BK337.out) hb);have n4_:=Aside0.mk (below_step (by repeat (first|(with_reducible first|exact HB.out|apply below_alloc|apply pw_below_drewN|apply below_drew1|refine below_set ?_ GE336.out|refine below_set ?_ GE337.out)|exact HB.out)) hb);clear HO_337001;clear HO_337002;clear BK336;clear BK337;clear HB;have HO_337001:=n0_;have HO_337002:=n1_;have BK336:=n2_;have BK337:=n3_;have HB:=n4_;clear n0_ n1_ n2_ n3_ n4_;(try clear hb);(try clear hb2);(try clear hk);(try clear hi)))
          go_ret
          exact ⟨by first|rfl|(simp [errW_none,errW_some]<;>rfl)|(simp [*,errW_none,errW_some]<;>rfl),by repeat (first|(with_reducible first|exact HB.out|apply below_alloc|apply pw_below_drewN|apply below_drew1|refine below_set ?_ GE336.out|refine below_set ?_ GE337.out)|exact HB.out)⟩
        · replace c25:=Bool.eq_false_iff.mpr c25
          subst c25
          have H1:((impl_ConfTakes.f kj4 t327 t328 t331 (⟨#[122,122]⟩:ByteArray) t335).bind fun t341=>(if t341=true then ((impl_ConfOk.f kj4 t327 t328 t331).bind fun t342=>(if t342=true then ((impl_AddrOk.f kj4 t334 t335).bind fun t343=>(some t343)) else (some false))) else (some false)))=some r:=by rw [if_neg (show ¬ (false=true) by decide)] at H;exact H
          clear H
          have H:=H1
          clear H1
          replace H:=Option.bind_eq_some_iff.mp H
          obtain ⟨t341,A310,H⟩:=H
          replace H:(if t341=true then ((impl_ConfOk.f kj4 t327 t328 t331).bind fun t342=>(if t342=true then ((impl_AddrOk.f kj4 t334 t335).bind fun t343=>(some t343)) else (some false))) else (some false))=some r:=H
          have A31:=Aside0.mk A310
          clear A310
          by_cases c32:t341=true
          · subst c32
            have H1:((impl_ConfOk.f kj4 t327 t328 t331).bind fun t342=>(if t342=true then ((impl_AddrOk.f kj4 t334 t335).bind fun t343=>(some t343)) else (some false)))=some r:=by rw [if_pos rfl] at H;exact H
            clear H
            have H:=H1
            clear H1
            replace H:=Option.bind_eq_some_iff.mp H
            obtain ⟨t342,A330,H⟩:=H
            replace H:(if t342=true then ((impl_AddrOk.f kj4 t334 t335).bind fun t343=>(some t343)) else (some false))=some r:=H
            have A33:=Aside0.mk A330
            clear A330
            by_cases c34:t342=true
            · subst c34
              have H1:((impl_AddrOk.f kj4 t334 t335).bind fun t343=>(some t343))=some r:=by rw [if_pos rfl] at H;exact H
              clear H
              have H:=H1
              clear H1
              replace H:=Option.bind_eq_some_iff.mp H
              obtain ⟨t343,A350,H⟩:=H
              replace H:(some t343)=some r:=H
              have A35:=Aside0.mk A350
              clear A350
              obtain rfl:=Option.some.inj H
              have hnb36:=NB336_337.out
              have hnc36:=NB337_336.out
              have hcz37_0:wc.cell? ⟨gb336,0,none⟩=some (.string t327):=(blk_cell BK336.out 0).trans rfl
              have hcz37_1:wc.cell? ⟨gb336,1,none⟩=some (.slice Ao11 t328.length co11):=(blk_cell BK336.out 1).trans rfl
              have hcz37_2:wc.cell? ⟨gb336,2,none⟩=some (.slice Ao12 t331.length co12):=(blk_cell BK336.out 2).trans rfl
              have hfz37_0:=blk_frozen BK336.out 0
              have hfz37_1:=blk_frozen BK336.out 1
              have hfz37_2:=blk_frozen BK336.out 2
              have hcz38_0:wc.cell? ⟨gb337,0,none⟩=some (.string t334):=(blk_cell BK337.out 0).trans rfl
              have hcz38_1:wc.cell? ⟨gb337,1,none⟩=some (.string t335):=(blk_cell BK337.out 1).trans rfl
              have hfz38_0:=blk_frozen BK337.out 0
              have hfz38_1:=blk_frozen BK337.out 1
              go_wp2_with (first|((with_reducible refine gate_callee (f:=48) rfl ?_);refine goesL_ (some 35) rfl rfl Tryd.func48 (by kernel_rfl) rfl #[.agg #[.string t327,.slice Ao11 t328.length co11,.slice Ao12 t331.length co12],.agg #[.string (⟨#[122,122]⟩:ByteArray),.string t335]] rfl (by (try simp only [List.map_toArray,List.map_cons,List.map_nil]);first|done|rfl|(simp only [List.length_drop,List.length_take];rfl)) ?_;(with_reducible refine (impl_ConfTakes.calls kj4 t327 _ _ t328 _ _ t331 (⟨#[122,122]⟩:ByteArray) t335 true _ ?side1 ?side2 ?side3 ?side4 ?side5 A31.out).mono ?_);(case side1=>repeat (first|exact (Kd.V_reads' HO_337001.out).2.2|(with_reducible refine Kd.C_alloc ?_ _)|(with_reducible refine Kd.C_drewN ?_ _)|(with_reducible refine Kd.C_drew ?_)));(case side2=>exact (Kd.V_reads' HO_337001.out).2.1);(case side3=>repeat (first|exact (Kd.V_reads' HO_337002.out).2.2|(with_reducible refine Kd.C_alloc ?_ _)|(with_reducible refine Kd.C_drewN ?_ _)|(with_reducible refine Kd.C_drew ?_)));(case side4=>exact (Kd.V_reads' HO_337002.out).2.1);(case side5=>first|(with_reducible exact HG.out)|((with_reducible repeat (first|exact HG.out|apply GOK.drewN|apply GOK.drew));done)|exact GOK.below HG.out (by repeat (first|(with_reducible first|exact HB.out|apply below_alloc|apply pw_below_drewN|apply below_drew1|refine below_set ?_ GE336.out|refine below_set ?_ GE337.out)|exact HB.out)));rintro e w39 ⟨rfl,hb⟩;refine ⟨_,rfl,?_⟩;have n0_:=Aside0.mk (Kd.V_below (by (with_reducible repeat (first|apply Kd.V_alloc|apply Kd.V_drewN|apply Kd.V_drew));exact HO_337001.out) hb);have n1_:=Aside0.mk (Kd.V_below (by (with_reducible repeat (first|apply Kd.V_alloc|apply Kd.V_drewN|apply Kd.V_drew));exact HO_337002.out) hb);have n2_:=Aside0.mk (blk_below (g:=gb336) (o:=.cells #[.string t327,.slice Ao11 t328.length co11,.slice Ao12 t331.length co12] 56 (0,0)) (by (with_reducible repeat (first|refine blk_drewN ?_ _|refine blk_drew ?_|refine blk_alloc ?_ _));exact BK336.out) hb);have n3_:=Aside0.mk (blk_below (g:=gb337) (o:=.cells #[.string t334,.string t335] 32 (0,0)) (by (with_reducible repeat (first|refine blk_drewN ?_ _|refine blk_drew ?_|refine blk_alloc ?_ _));exact BK337.out) hb);have n4_:=Aside0.mk (below_step (by repeat (first|(with_reducible first|exact HB.out|apply below_alloc|apply pw_below_drewN|apply below_drew1|refine below_set ?_ GE336.out|refine below_set ?_ GE337.out)|exact HB.out)) hb);clear HO_337001;clear HO_337002;clear BK336;clear BK337;clear HB;have HO_337001:=n0_;have HO_337002:=n1_;have BK336:=n2_;have BK337:=n3_;have HB:=n4_;clear n0_ n1_ n2_ n3_ n4_;(try clear hb);(try clear hb2);(try clear hk);(try clear hi);have hcz40_0:w39.cell? ⟨gb336,0,none⟩=some (.string t327):=(blk_cell BK336.out 0).trans rfl;have hcz40_1:w39.cell? ⟨gb336,1,none⟩=some (.slice Ao11 t328.length co11):=(blk_cell BK336.out 1).trans rfl;have hcz40_2:w39.cell? ⟨gb336,2,none⟩=some (.slice Ao12 t331.length co12):=(blk_cell BK336.out 2).trans rfl;have hfz40_0:=blk_frozen BK336.out 0;have hfz40_1:=blk_frozen BK336.out 1;have hfz40_2:=blk_frozen BK336.out 2)|(go_at_call 42;(with_reducible refine (impl_ConfOk.calls kj4 t327 _ _ t328 _ _ t331 true _ ?side1 ?side2 ?side3 ?side4 ?side5 A33.out).mono ?_);(case side1=>repeat (first|exact (Kd.V_reads' HO_337001.out).2.2|(with_reducible refine Kd.C_alloc ?_ _)|(with_reducible refine Kd.C_drewN ?_ _)|(with_reducible refine Kd.C_drew ?_)));(case side2=>exact (Kd.V_reads' HO_337001.out).2.1);(case side3=>repeat (first|exact (Kd.V_reads' HO_337002.out).2.2|(with_reducible refine Kd.C_alloc ?_ _)|(with_reducible refine Kd.C_drewN ?_ _)|(with_reducible refine Kd.C_drew ?_)));(case side4=>exact (Kd.V_reads' HO_337002.out).2.1);(case side5=>first|(with_reducible exact HG.out)|((with_reducible repeat (first|exact HG.out|apply GOK.drewN|apply GOK.drew));done)|exact GOK.below HG.out (by repeat (first|(with_reducible first|exact HB.out|apply below_alloc|apply pw_below_drewN|apply below_drew1|refine below_set ?_ GE336.out|refine below_set ?_ GE337.out)|exact HB.out)));rintro e w41 ⟨rfl,hb⟩;have n0_:=Aside0.mk (Kd.V_below (by (with_reducible repeat (first|apply Kd.V_alloc|apply Kd.V_drewN|apply Kd.V_drew));exact HO_337001.out) hb);have n1_:=Aside0.mk (Kd.V_below (by (with_reducible repeat (first|apply Kd.V_alloc|apply Kd.V_drewN|apply Kd.V_drew));exact HO_337002.out) hb);have n2_:=Aside0.mk (blk_below (g:=gb336) (o:=.cells #[.string t327,.slice Ao11 t328.length co11,.slice Ao12 t331.length co12] 56 (0,0)) (by (with_reducible repeat (first|refine blk_drewN ?_ _|refine blk_drew ?_|refine blk_alloc ?_ _));exact BK336.out) hb);have n3_:=Aside0.mk (blk_below (g:=gb337) (o:=.cells #[.string t334,.string t335] 32 (0,0)) (by (with_reducible repeat (first|refine blk_drewN ?_ _|refine blk_drew ?_|refine blk_alloc ?_ _));exact BK337.out) hb);have n4_:=Aside0.mk (below_step (by repeat (first|(with_reducible first|exact HB.out|apply below_alloc|apply pw_below_drewN|apply below_drew1|refine below_set ?_ GE336.out|refine below_set ?_ GE337.out)|exact HB.out)) hb);clear HO_337001;clear HO_337002;clear BK336;clear BK337;clear HB;have HO_337001:=n0_;have HO_337002:=n1_;have BK336:=n2_;have BK337:=n3_;have HB:=n4_;clear n0_ n1_ n2_ n3_ n4_;(try clear hb);(try clear hb2);(try clear hk);(try clear hi);have hcz42_0:w41.cell? ⟨gb337,0,none⟩=some (.string t334):=(blk_cell BK337.out 0).trans rfl;have hcz42_1:w41.cell? ⟨gb337,1,none⟩=some (.string t335):=(blk_cell BK337.out 1).trans rfl;have hfz42_0:=blk_frozen BK337.out 0;have hfz42_1:=blk_frozen BK337.out 1)|(go_at_call 33;(with_reducible refine (impl_AddrOk.calls kj4 t334 t335 t343 _ ?side1 A35.out).mono ?_);(case side1=>first|(with_reducible exact HG.out)|((with_reducible repeat (first|exact HG.out|apply GOK.drewN|apply GOK.drew));done)|exact GOK.below HG.out (by repeat (first|(with_reducible first|exact HB.out|apply below_alloc|apply pw_below_drewN|apply below_drew1|refine below_set ?_ GE336.out|refine below_set ?_ GE337.out)|exact HB.out)));rintro e w43 ⟨rfl,hb⟩;have n0_:=Aside0.mk (Kd.V_below (by (with_reducible repeat (first|apply Kd.V_alloc|apply Kd.V_drewN|apply Kd.V_drew));exact HO_337001.out) hb);have n1_:=Aside0.mk (Kd.V_below (by (with_reducible repeat (first|apply Kd.V_alloc|apply Kd.V_drewN|apply Kd.V_drew));exact HO_337002.out) hb);have n2_:=Aside0.mk (blk_below (g:=gb336) (o:=.cells #[.string t327,.slice Ao11 t328.length co11,.slice Ao12 t331.length co12] 56 (0,0)) (by (with_reducible repeat (first|refine blk_drewN ?_ _|refine blk_drew ?_|refine blk_alloc ?_ _));exact BK336.out) hb);have n3_:=Aside0.mk (blk_below (g:=gb337) (o:=.cells #[.string t334,.string t335] 32 (0,0)) (by (with_reducible repeat (first|refine blk_drewN ?_ _|refine blk_drew ?_|refine blk_alloc ?_ _));exact BK337.out) hb);have n4_:=Aside0.mk (below_step (by repeat (first|(with_reducible first|exact HB.out|apply below_alloc|apply pw_below_drewN|apply below_drew1|refine below_set ?_ GE336.out|refine below_set ?_ GE337.out)|exact HB.out)) hb);clear HO_337001;clear HO_337002;clear BK336;clear BK337;clear HB;have HO_337001:=n0_;have HO_337002:=n1_;have BK336:=n2_;have BK337:=n3_;have HB:=n4_;clear n0_ n1_ n2_ n3_ n4_;(try clear hb);(try clear hb2);(try clear hk);(try clear hi)))
              go_ret
              exact ⟨by first|rfl|(simp [errW_none,errW_some]<;>rfl)|(simp [*,errW_none,errW_some]<;>rfl),by repeat (first|(with_reducible first|exact HB.out|apply below_alloc|apply pw_below_drewN|apply below_drew1|refine below_set ?_ GE336.out|refine below_set ?_ GE337.out)|exact HB.out)⟩
            · replace c34:=Bool.eq_false_iff.mpr c34
              subst c34
              have H1:(some false)=some r:=by rw [if_neg (show ¬ (false=true) by decide)] at H;exact H
              clear H
              have H:=H1
              clear H1
              obtain rfl:=Option.some.inj H
              have hnb44:=NB336_337.out
              have hnc44:=NB337_336.out
              have hcz45_0:wc.cell? ⟨gb336,0,none⟩=some (.string t327):=(blk_cell BK336.out 0).trans rfl
              have hcz45_1:wc.cell? ⟨gb336,1,none⟩=some (.slice Ao11 t328.length co11):=(blk_cell BK336.out 1).trans rfl
              have hcz45_2:wc.cell? ⟨gb336,2,none⟩=some (.slice Ao12 t331.length co12):=(blk_cell BK336.out 2).trans rfl
              have hfz45_0:=blk_frozen BK336.out 0
              have hfz45_1:=blk_frozen BK336.out 1
              have hfz45_2:=blk_frozen BK336.out 2
              have hcz46_0:wc.cell? ⟨gb337,0,none⟩=some (.string t334):=(blk_cell BK337.out 0).trans rfl
              have hcz46_1:wc.cell? ⟨gb337,1,none⟩=some (.string t335):=(blk_cell BK337.out 1).trans rfl
              have hfz46_0:=blk_frozen BK337.out 0
              have hfz46_1:=blk_frozen BK337.out 1
              go_wp2_with (first|((with_reducible refine gate_callee (f:=48) rfl ?_);refine goesL_ (some 35) rfl rfl Tryd.func48 (by kernel_rfl) rfl #[.agg #[.string t327,.slice Ao11 t328.length co11,.slice Ao12 t331.length co12],.agg #[.string (⟨#[122,122]⟩:ByteArray),.string t335]] rfl (by (try simp only [List.map_toArray,List.map_cons,List.map_nil]);first|done|rfl|(simp only [List.length_drop,List.length_take];rfl)) ?_;(with_reducible refine (impl_ConfTakes.calls kj4 t327 _ _ t328 _ _ t331 (⟨#[122,122]⟩:ByteArray) t335 true _ ?side1 ?side2 ?side3 ?side4 ?side5 A31.out).mono ?_);(case side1=>repeat (first|exact (Kd.V_reads' HO_337001.out).2.2|(with_reducible refine Kd.C_alloc ?_ _)|(with_reducible refine Kd.C_drewN ?_ _)|(with_reducible refine Kd.C_drew ?_)));(case side2=>exact (Kd.V_reads' HO_337001.out).2.1);(case side3=>repeat (first|exact (Kd.V_reads' HO_337002.out).2.2|(with_reducible refine Kd.C_alloc ?_ _)|(with_reducible refine Kd.C_drewN ?_ _)|(with_reducible refine Kd.C_drew ?_)));(case side4=>exact (Kd.V_reads' HO_337002.out).2.1);(case side5=>first|(with_reducible exact HG.out)|((with_reducible repeat (first|exact HG.out|apply GOK.drewN|apply GOK.drew));done)|exact GOK.below HG.out (by repeat (first|(with_reducible first|exact HB.out|apply below_alloc|apply pw_below_drewN|apply below_drew1|refine below_set ?_ GE336.out|refine below_set ?_ GE337.out)|exact HB.out)));rintro e w47 ⟨rfl,hb⟩;refine ⟨_,rfl,?_⟩;have n0_:=Aside0.mk (Kd.V_below (by (with_reducible repeat (first|apply Kd.V_alloc|apply Kd.V_drewN|apply Kd.V_drew));exact HO_337001.out) hb);have n1_:=Aside0.mk (Kd.V_below (by (with_reducible repeat (first|apply Kd.V_alloc|apply Kd.V_drewN|apply Kd.V_drew));exact HO_337002.out) hb);have n2_:=Aside0.mk (blk_below (g:=gb336) (o:=.cells #[.string t327,.slice Ao11 t328.length co11,.slice Ao12 t331.length co12] 56 (0,0)) (by (with_reducible repeat (first|refine blk_drewN ?_ _|refine blk_drew ?_|refine blk_alloc ?_ _));exact BK336.out) hb);have n3_:=Aside0.mk (blk_below (g:=gb337) (o:=.cells #[.string t334,.string t335] 32 (0,0)) (by (with_reducible repeat (first|refine blk_drewN ?_ _|refine blk_drew ?_|refine blk_alloc ?_ _));exact BK337.out) hb);have n4_:=Aside0.mk (below_step (by repeat (first|(with_reducible first|exact HB.out|apply below_alloc|apply pw_below_drewN|apply below_drew1|refine below_set ?_ GE336.out|refine below_set ?_ GE337.out)|exact HB.out)) hb);clear HO_337001;clear HO_337002;clear BK336;clear BK337;clear HB;have HO_337001:=n0_;have HO_337002:=n1_;have BK336:=n2_;have BK337:=n3_;have HB:=n4_;clear n0_ n1_ n2_ n3_ n4_;(try clear hb);(try clear hb2);(try clear hk);(try clear hi);have hcz48_0:w47.cell? ⟨gb336,0,none⟩=some (.string t327):=(blk_cell BK336.out 0).trans rfl;have hcz48_1:w47.cell? ⟨gb336,1,none⟩=some (.slice Ao11 t328.length co11):=(blk_cell BK336.out 1).trans rfl;have hcz48_2:w47.cell? ⟨gb336,2,none⟩=some (.slice Ao12 t331.length co12):=(blk_cell BK336.out 2).trans rfl;have hfz48_0:=blk_frozen BK336.out 0;have hfz48_1:=blk_frozen BK336.out 1;have hfz48_2:=blk_frozen BK336.out 2)|(go_at_call 42;(with_reducible refine (impl_ConfOk.calls kj4 t327 _ _ t328 _ _ t331 false _ ?side1 ?side2 ?side3 ?side4 ?side5 A33.out).mono ?_);(case side1=>repeat (first|exact (Kd.V_reads' HO_337001.out).2.2|(with_reducible refine Kd.C_alloc ?_ _)|(with_reducible refine Kd.C_drewN ?_ _)|(with_reducible refine Kd.C_drew ?_)));(case side2=>exact (Kd.V_reads' HO_337001.out).2.1);(case side3=>repeat (first|exact (Kd.V_reads' HO_337002.out).2.2|(with_reducible refine Kd.C_alloc ?_ _)|(with_reducible refine Kd.C_drewN ?_ _)|(with_reducible refine Kd.C_drew ?_)));(case side4=>exact (Kd.V_reads' HO_337002.out).2.1);(case side5=>first|(with_reducible exact HG.out)|((with_reducible repeat (first|exact HG.out|apply GOK.drewN|apply GOK.drew));done)|exact GOK.below HG.out (by repeat (first|(with_reducible first|exact HB.out|apply below_alloc|apply pw_below_drewN|apply below_drew1|refine below_set ?_ GE336.out|refine below_set ?_ GE337.out)|exact HB.out)));rintro e w49 ⟨rfl,hb⟩;have n0_:=Aside0.mk (Kd.V_below (by (with_reducible repeat (first|apply Kd.V_alloc|apply Kd.V_drewN|apply Kd.V_drew));exact HO_337001.out) hb);have n1_:=Aside0.mk (Kd.V_below (by (with_reducible repeat (first|apply Kd.V_alloc|apply Kd.V_drewN|apply Kd.V_drew));exact HO_337002.out) hb);have n2_:=Aside0.mk (blk_below (g:=gb336) (o:=.cells #[.string t327,.slice Ao11 t328.length co11,.slice Ao12 t331.length co12] 56 (0,0)) (by (with_reducible repeat (first|refine blk_drewN ?_ _|refine blk_drew ?_|refine blk_alloc ?_ _));exact BK336.out) hb);have n3_:=Aside0.mk (blk_below (g:=gb337) (o:=.cells #[.string t334,.string t335] 32 (0,0)) (by (with_reducible repeat (first|refine blk_drewN ?_ _|refine blk_drew ?_|refine blk_alloc ?_ _));exact BK337.out) hb);have n4_:=Aside0.mk (below_step (by repeat (first|(with_reducible first|exact HB.out|apply below_alloc|apply pw_below_drewN|apply below_drew1|refine below_set ?_ GE336.out|refine below_set ?_ GE337.out)|exact HB.out)) hb);clear HO_337001;clear HO_337002;clear BK336;clear BK337;clear HB;have HO_337001:=n0_;have HO_337002:=n1_;have BK336:=n2_;have BK337:=n3_;have HB:=n4_;clear n0_ n1_ n2_ n3_ n4_;(try clear hb);(try clear hb2);(try clear hk);(try clear hi)))
              go_ret
              exact ⟨by first|rfl|(simp [errW_none,errW_some]<;>rfl)|(simp [*,errW_none,errW_some]<;>rfl),by repeat (first|(with_reducible first|exact HB.out|apply below_alloc|apply pw_below_drewN|apply below_drew1|refine below_set ?_ GE336.out|refine below_set ?_ GE337.out)|exact HB.out)⟩
          · replace c32:=Bool.eq_false_iff.mpr c32
            subst c32
            have H1:(some false)=some r:=by rw [if_neg (show ¬ (false=true) by decide)] at H;exact H
            clear H
            have H:=H1
            clear H1
            obtain rfl:=Option.some.inj H
            have hnb50:=NB336_337.out
            have hnc50:=NB337_336.out
            have hcz51_0:wc.cell? ⟨gb336,0,none⟩=some (.string t327):=(blk_cell BK336.out 0).trans rfl
            have hcz51_1:wc.cell? ⟨gb336,1,none⟩=some (.slice Ao11 t328.length co11):=(blk_cell BK336.out 1).trans rfl
            have hcz51_2:wc.cell? ⟨gb336,2,none⟩=some (.slice Ao12 t331.length co12):=(blk_cell BK336.out 2).trans rfl
            have hfz51_0:=blk_frozen BK336.out 0
            have hfz51_1:=blk_frozen BK336.out 1
            have hfz51_2:=blk_frozen BK336.out 2
            have hcz52_0:wc.cell? ⟨gb337,0,none⟩=some (.string t334):=(blk_cell BK337.out 0).trans rfl
            have hcz52_1:wc.cell? ⟨gb337,1,none⟩=some (.string t335):=(blk_cell BK337.out 1).trans rfl
            have hfz52_0:=blk_frozen BK337.out 0
            have hfz52_1:=blk_frozen BK337.out 1
            go_wp2_with (first|((with_reducible refine gate_callee (f:=48) rfl ?_);refine goesL_ (some 35) rfl rfl Tryd.func48 (by kernel_rfl) rfl #[.agg #[.string t327,.slice Ao11 t328.length co11,.slice Ao12 t331.length co12],.agg #[.string (⟨#[122,122]⟩:ByteArray),.string t335]] rfl (by (try simp only [List.map_toArray,List.map_cons,List.map_nil]);first|done|rfl|(simp only [List.length_drop,List.length_take];rfl)) ?_;(with_reducible refine (impl_ConfTakes.calls kj4 t327 _ _ t328 _ _ t331 (⟨#[122,122]⟩:ByteArray) t335 false _ ?side1 ?side2 ?side3 ?side4 ?side5 A31.out).mono ?_);(case side1=>repeat (first|exact (Kd.V_reads' HO_337001.out).2.2|(with_reducible refine Kd.C_alloc ?_ _)|(with_reducible refine Kd.C_drewN ?_ _)|(with_reducible refine Kd.C_drew ?_)));(case side2=>exact (Kd.V_reads' HO_337001.out).2.1);(case side3=>repeat (first|exact (Kd.V_reads' HO_337002.out).2.2|(with_reducible refine Kd.C_alloc ?_ _)|(with_reducible refine Kd.C_drewN ?_ _)|(with_reducible refine Kd.C_drew ?_)));(case side4=>exact (Kd.V_reads' HO_337002.out).2.1);(case side5=>first|(with_reducible exact HG.out)|((with_reducible repeat (first|exact HG.out|apply GOK.drewN|apply GOK.drew));done)|exact GOK.below HG.out (by repeat (first|(with_reducible first|exact HB.out|apply below_alloc|apply pw_below_drewN|apply below_drew1|refine below_set ?_ GE336.out|refine below_set ?_ GE337.out)|exact HB.out)));rintro e w53 ⟨rfl,hb⟩;refine ⟨_,rfl,?_⟩;have n0_:=Aside0.mk (Kd.V_below (by (with_reducible repeat (first|apply Kd.V_alloc|apply Kd.V_drewN|apply Kd.V_drew));exact HO_337001.out) hb);have n1_:=Aside0.mk (Kd.V_below (by (with_reducible repeat (first|apply Kd.V_alloc|apply Kd.V_drewN|apply Kd.V_drew));exact HO_337002.out) hb);have n2_:=Aside0.mk (blk_below (g:=gb336) (o:=.cells #[.string t327,.slice Ao11 t328.length co11,.slice Ao12 t331.length co12] 56 (0,0)) (by (with_reducible repeat (first|refine blk_drewN ?_ _|refine blk_drew ?_|refine blk_alloc ?_ _));exact BK336.out) hb);have n3_:=Aside0.mk (blk_below (g:=gb337) (o:=.cells #[.string t334,.string t335] 32 (0,0)) (by (with_reducible repeat (first|refine blk_drewN ?_ _|refine blk_drew ?_|refine blk_alloc ?_ _));exact BK337.out) hb);have n4_:=Aside0.mk (below_step (by repeat (first|(with_reducible first|exact HB.out|apply below_alloc|apply pw_below_drewN|apply below_drew1|refine below_set ?_ GE336.out|refine below_set ?_ GE337.out)|exact HB.out)) hb);clear HO_337001;clear HO_337002;clear BK336;clear BK337;clear HB;have HO_337001:=n0_;have HO_337002:=n1_;have BK336:=n2_;have BK337:=n3_;have HB:=n4_;clear n0_ n1_ n2_ n3_ n4_;(try clear hb);(try clear hb2);(try clear hk);(try clear hi)))
            go_ret
            exact ⟨by first|rfl|(simp [errW_none,errW_some]<;>rfl)|(simp [*,errW_none,errW_some]<;>rfl),by repeat (first|(with_reducible first|exact HB.out|apply below_alloc|apply pw_below_drewN|apply below_drew1|refine below_set ?_ GE336.out|refine below_set ?_ GE337.out)|exact HB.out)⟩
end Go.Proofs.YtpeefjfklklhdaaDoor.Q
