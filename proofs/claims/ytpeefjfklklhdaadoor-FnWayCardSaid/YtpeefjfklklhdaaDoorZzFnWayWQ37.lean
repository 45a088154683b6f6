/- Of a text of ours what this claim needs. -/
import Derived.Test.YtpeefjfklklhdaaDoorZzFnWayWQ0
import Derived.Test.YtpeefjfklklhdaaDoorZzFnWayWQ3
import Derived.Test.YtpeefjfklklhdaaDoorZzFnWayWQ22
import Derived.Test.YtpeefjfklklhdaaDoorZzFnWayWQ24
import Derived.Test.YtpeefjfklklhdaaDoorZzFnWayWQ33
import Derived.Test.YtpeefjfklklhdaaDoorZzFnWayWQ36
import Derived.Test.YtpeefjfklklhdaaDoorZzFnWayWHSplit
namespace Go.Proofs.YtpeefjfklklhdaaDoor.Q
open Go.RowKit Go.Proofs.YtpeefjfklklhdaaDoorW.PrintWords Go.Proofs.YtpeefjfklklhdaaDoorW.PrintLast Go.Proofs.YtpeefjfklklhdaaDoorW.PrintMore
attribute [local go_sem] max2_int min2_int max_two min_two max_three min_three max_four min_four
set_option linter.unusedVariables false
set_option linter.unusedSimpArgs false
mutual
def laws_FnWay.j0:Nat→ByteArray→ByteArray→Bool→ByteArray→List ByteArray→List (S69)→Option (Bool)
  | 0,_,_,_,_,_,_=>none
  | k+1,x4,x5,x45,x358000,x358001,x358002=>if x45=true then ((spec_WayOf.f k x358000 x358001 x358002 x4).bind fun t364=>(if x5.toList=t364.toList then ((impl_ConfOk.f k x358000 x358001 x358002).bind fun t365=>((spec_ConfOk.f k x358000 x358001 x358002).bind fun t366=>(some (t365==t366)))) else (some false))) else (laws_FnWay.l0 k x4 x5 false 0 x358000 x358001 x358002)
def laws_FnWay.l0:Nat→ByteArray→ByteArray→Bool→Int→ByteArray→List ByteArray→List (S69)→Option (Bool)
  | 0,_,_,_,_,_,_,_=>none
  | k+1,x4,x5,x6,x7,x358000,x358001,x358002=>if x7 < (x358001.length:Int) then (if x6=true then (laws_FnWay.l0 k x4 x5 true (wrap64 (x7+1)) x358000 x358001 x358002) else (if 0≤x7 then (laws_FnWay.l0 k x4 x5 ((rdOf ByteArray.empty x358001 x7).toList==x4.toList) (wrap64 (x7+1)) x358000 x358001 x358002) else (none))) else (laws_FnWay.l1 k x4 x5 x6 0 0 x358000 x358001 x358002)
def laws_FnWay.l1:Nat→ByteArray→ByteArray→Bool→Int→Int→ByteArray→List ByteArray→List (S69)→Option (Bool)
  | 0,_,_,_,_,_,_,_,_=>none
  | k+1,x4,x5,x6,x8,x9,x358000,x358001,x358002=>if x9 < (x358002.length:Int) then (if 0≤x9 then ((impl_DomainIn.f k x4 ((rd_T69 x358002 x9).f0)).bind fun t369=>(if t369=true then (if (((rd_T69 x358002 x9).f0).size:Int) > x8 then (laws_FnWay.l1 k x4 x5 x6 (((rd_T69 x358002 x9).f0).size:Int) (wrap64 (x9+1)) x358000 x358001 x358002) else (laws_FnWay.l1 k x4 x5 x6 x8 (wrap64 (x9+1)) x358000 x358001 x358002)) else (laws_FnWay.l1 k x4 x5 x6 x8 (wrap64 (x9+1)) x358000 x358001 x358002))) else (none)) else (if x8=0 then (laws_FnWay.j3 k x4 x5 x6 x8 (x5.toList==([]:List UInt8)) x358000 x358001 x358002) else (laws_FnWay.j3 k x4 x5 x6 x8 false x358000 x358001 x358002))
def laws_FnWay.j3:Nat→ByteArray→ByteArray→Bool→Int→Bool→ByteArray→List ByteArray→List (S69)→Option (Bool)
  | 0,_,_,_,_,_,_,_,_=>none
  | k+1,x4,x5,x6,x8,x10,x358000,x358001,x358002=>laws_FnWay.l2 k x4 x5 x6 x8 x10 0 x358000 x358001 x358002
def laws_FnWay.l2:Nat→ByteArray→ByteArray→Bool→Int→Bool→Int→ByteArray→List ByteArray→List (S69)→Option (Bool)
  | 0,_,_,_,_,_,_,_,_,_=>none
  | k+1,x4,x5,x6,x8,x10,x11,x358000,x358001,x358002=>if x11 < (x358002.length:Int) then (if x10=true then (laws_FnWay.l2 k x4 x5 x6 x8 true (wrap64 (x11+1)) x358000 x358001 x358002) else (if x5.toList=([]:List UInt8) then (laws_FnWay.l2 k x4 x5 x6 x8 false (wrap64 (x11+1)) x358000 x358001 x358002) else (if 0≤x11 then (if x5.toList=((rd_T69 x358002 x11).f1).toList then (if (((rd_T69 x358002 x11).f0).size:Int)=x8 then ((impl_DomainIn.f k x4 ((rd_T69 x358002 x11).f0)).bind fun t375=>(laws_FnWay.l2 k x4 x5 x6 x8 t375 (wrap64 (x11+1)) x358000 x358001 x358002)) else (laws_FnWay.l2 k x4 x5 x6 x8 false (wrap64 (x11+1)) x358000 x358001 x358002)) else (laws_FnWay.l2 k x4 x5 x6 x8 false (wrap64 (x11+1)) x358000 x358001 x358002)) else (none)))) else ((impl_ConfTakes.f k x358000 x358001 x358002 bz13 x4).bind fun t376=>(if x6=true then (if (t376==true)=true then (if x5.toList=([]:List UInt8) then (some true) else (some false)) else (some false)) else (if (t376==(decide (x8 > 0)))=true then (some x10) else (some false))))
end
def laws_FnWay.f (k:Nat) (l0:List Int):Option (Bool):=if (l0.length:Int) > 1048576 then (some true) else ((spec_DrawWayOf.f k l0).bind fun bt349=>((impl_WayOf.f k bt349.1 bt349.2.1 bt349.2.2.1 bt349.2.2.2).bind fun t358=>((spec_WayOf.f k bt349.1 bt349.2.1 bt349.2.2.1 bt349.2.2.2).bind fun t359=>(if t358.toList=t359.toList then ((impl_ConfOk.f k bt349.1 bt349.2.1 bt349.2.2.1).bind fun t360=>((spec_ConfOk.f k bt349.1 bt349.2.1 bt349.2.2.1).bind fun t361=>(if (t360 != t361)=true then (laws_FnWay.j0 k bt349.2.2.2 t358 true bt349.1 bt349.2.1 bt349.2.2.1) else ((impl_ConfOk.f k bt349.1 bt349.2.1 bt349.2.2.1).bind fun t362=>(if t362=true then ((impl_DomainOk.f k bt349.2.2.2).bind fun t363=>(laws_FnWay.j0 k bt349.2.2.2 t358 (!t363) bt349.1 bt349.2.1 bt349.2.2.1)) else (laws_FnWay.j0 k bt349.2.2.2 t358 true bt349.1 bt349.2.1 bt349.2.2.1)))))) else (laws_FnWay.j0 k bt349.2.2.2 t358 true bt349.1 bt349.2.1 bt349.2.2.1)))))
def laws_FnWay.T5:Bool × List (List Nat × List Nat):=(true,[([],[]),([],[]),([],[]),([1,2],[1,2]),([0,3],[0,3]),([4,3],[4]),([5],[5]),([6,5,5],[5,6]),([5],[5]),([8,7,5],[5,8]),([7,9,5],[5,7,9]),([5,10],[5,10]),([11,9],[11]),([12],[12]),([13,12,12],[12,13]),([14,12],[12,14]),([12,15],[12,15]),([16,14],[16]),([17],[17]),([18,17,17],[17,18]),([19,17],[17,19]),([17,20],[17,20])])
def laws_FnWay.B5:List Nat:=[0,0,0,6,15,31,63,127,63,511,1023,2047,4095,8191,16383,32767,65535,131071,262143,524287,1048575,2097151]
theorem laws_FnWay.tab5:rtab .any (opsOf Tryd.f13 5)=laws_FnWay.T5:=by kernel_rfl
theorem laws_FnWay.bits5:waitsOk laws_FnWay.T5.2 laws_FnWay.B5=true:=by kernel_rfl
def laws_FnWay.T6:Bool × List (List Nat × List Nat):=(true,[([],[]),([],[]),([],[]),([1,2],[1,2]),([0,3],[0,3]),([4,3],[4]),([5],[5]),([6,5,5],[5,6]),([5],[5]),([8,7,5],[5,8]),([7,9,5],[5,7,9]),([5,10],[5,10]),([11,9,0,1,2,3,4,5,6,7,8,9,10,11],[11])])
def laws_FnWay.B6:List Nat:=[0,0,0,6,15,31,63,127,63,511,1023,2047,4095]
theorem laws_FnWay.tab6:rtab .any (opsOf Tryd.f13 6)=laws_FnWay.T6:=by kernel_rfl
theorem laws_FnWay.bits6:waitsOk laws_FnWay.T6.2 laws_FnWay.B6=true:=by kernel_rfl
set_option maxHeartbeats 8000000 in
set_option maxRecDepth 100000 in
theorem laws_FnWay.calls (k:Nat) (A0:Option Addr) (c0:Nat) (l0:List Int) (r:Bool) (w:World) (hr0:Kd.C (Kd.int .u8) w A0 l0.length l0) (hc0:l0.length≤c0) (hG:GOK w) (h:laws_FnWay.f k l0=some r) :
    Calls Tryd.prog 13 #[.slice A0 l0.length c0] w fun e w'=>e=.returned (.bool r)∧Below w.heap.size w w':=by
  have hu56:=Tryd.underlying56
  have hu32:=Tryd.underlying32
  have HR0:=Aside0.mk hr0
  have HC0:=Aside0.mk hc0
  clear hr0 hc0
  have HG:=Aside0.mk hG
  clear hG
  have HB:=Aside0.mk (Below.refl w.heap.size w)
  have H:(if (l0.length:Int) > 1048576 then (some true) else ((spec_DrawWayOf.f k l0).bind fun bt349=>((impl_WayOf.f k bt349.1 bt349.2.1 bt349.2.2.1 bt349.2.2.2).bind fun t358=>((spec_WayOf.f k bt349.1 bt349.2.1 bt349.2.2.1 bt349.2.2.2).bind fun t359=>(if t358.toList=t359.toList then ((impl_ConfOk.f k bt349.1 bt349.2.1 bt349.2.2.1).bind fun t360=>((spec_ConfOk.f k bt349.1 bt349.2.1 bt349.2.2.1).bind fun t361=>(if (t360 != t361)=true then (laws_FnWay.j0 k bt349.2.2.2 t358 true bt349.1 bt349.2.1 bt349.2.2.1) else ((impl_ConfOk.f k bt349.1 bt349.2.1 bt349.2.2.1).bind fun t362=>(if t362=true then ((impl_DomainOk.f k bt349.2.2.2).bind fun t363=>(laws_FnWay.j0 k bt349.2.2.2 t358 (!t363) bt349.1 bt349.2.1 bt349.2.2.1)) else (laws_FnWay.j0 k bt349.2.2.2 t358 true bt349.1 bt349.2.1 bt349.2.2.1)))))) else (laws_FnWay.j0 k bt349.2.2.2 t358 true bt349.1 bt349.2.1 bt349.2.2.1))))))=some r:=h
  clear h
  by_cases c2:(l0.length:Int) > 1048576
  · rw [if_pos c2] at H
    have c2b0:decide (1048576 < (l0.length:Int))=true:=decide_eq_true c2
    have c2b1:decide (1048576 < l0.length)=true:=decide_eq_true (by omega)
    clear c2
    obtain rfl:=Option.some.inj H
    go_enter Tryd.func13,Tryd.ntmps13
    go_wp2
    go_ret
    exact ⟨by first|rfl|(simp [errW_none,errW_some]<;>rfl)|(simp [*,errW_none,errW_some]<;>rfl)|(simp [*,errW_none,errW_some];cases t358.toList<;>rfl),by repeat (first|(with_reducible first|exact HB.out|apply below_alloc|apply pw_below_drewN|apply below_drew1)|exact HB.out)⟩
  · rw [if_neg c2] at H
    have c2b0:decide (1048576 < (l0.length:Int))=false:=decide_eq_false c2
    have c2b1:decide (1048576 < l0.length)=false:=decide_eq_false (by omega)
    clear c2
    replace H:=Option.bind_eq_some_iff.mp H
    obtain ⟨⟨t349,t350,t353,t356⟩,A30,H⟩:=H
    replace H:((impl_WayOf.f k t349 t350 t353 t356).bind fun t358=>((spec_WayOf.f k t349 t350 t353 t356).bind fun t359=>(if t358.toList=t359.toList then ((impl_ConfOk.f k t349 t350 t353).bind fun t360=>((spec_ConfOk.f k t349 t350 t353).bind fun t361=>(if (t360 != t361)=true then (laws_FnWay.j0 k t356 t358 true t349 t350 t353) else ((impl_ConfOk.f k t349 t350 t353).bind fun t362=>(if t362=true then ((impl_DomainOk.f k t356).bind fun t363=>(laws_FnWay.j0 k t356 t358 (!t363) t349 t350 t353)) else (laws_FnWay.j0 k t356 t358 true t349 t350 t353)))))) else (laws_FnWay.j0 k t356 t358 true t349 t350 t353))))=some r:=H
    have A3:=Aside0.mk A30
    clear A30
    replace H:=Option.bind_eq_some_iff.mp H
    obtain ⟨t358,A40,H⟩:=H
    replace H:((spec_WayOf.f k t349 t350 t353 t356).bind fun t359=>(if t358.toList=t359.toList then ((impl_ConfOk.f k t349 t350 t353).bind fun t360=>((spec_ConfOk.f k t349 t350 t353).bind fun t361=>(if (t360 != t361)=true then (laws_FnWay.j0 k t356 t358 true t349 t350 t353) else ((impl_ConfOk.f k t349 t350 t353).bind fun t362=>(if t362=true then ((impl_DomainOk.f k t356).bind fun t363=>(laws_FnWay.j0 k t356 t358 (!t363) t349 t350 t353)) else (laws_FnWay.j0 k t356 t358 true t349 t350 t353)))))) else (laws_FnWay.j0 k t356 t358 true t349 t350 t353)))=some r:=H
    have A4:=Aside0.mk A40
    clear A40
    have HC5:=Aside0.mk H
    clear H
    go_enter Tryd.func13,Tryd.ntmps13
    go_upto_region 5 with (first|((with_reducible refine gate_callee (f:=50) rfl ?_);refine goesL_ (some 18) rfl rfl Tryd.func50 (by kernel_rfl) rfl #[.slice A0 l0.length c0] rfl (by (try simp only [List.map_toArray,List.map_cons,List.map_nil]);first|done|rfl|(simp only [List.length_drop,List.length_take];rfl)) ?_;(with_reducible refine (spec_DrawWayOf.calls k _ _ l0 t349 t350 t353 t356 _ ?side1 ?side2 A3.out).mono ?_);(case side1=>repeat (first|exact HR0.out|(with_reducible refine Kd.C_alloc ?_ _)|(with_reducible refine Kd.C_drewN ?_ _)|(with_reducible refine Kd.C_drew ?_)));(case side2=>exact HC0.out);rintro e w6 ⟨v351,v354,rfl,ho0,ho1,hb⟩;refine ⟨_,rfl,?_⟩;have n0_:=Aside0.mk (Kd.V_lower (Kd.V_mono (ok':=fun k_=>True) ho0 (fun k_ hk_=>trivial)) (below_size (by repeat (first|(with_reducible first|exact HB.out|apply below_alloc|apply pw_below_drewN|apply below_drew1)|exact HB.out))));have n1_:=Aside0.mk (Kd.V_lower (Kd.V_mono (ok':=fun k_=>True) ho1 (fun k_ hk_=>trivial)) (below_size (by repeat (first|(with_reducible first|exact HB.out|apply below_alloc|apply pw_below_drewN|apply below_drew1)|exact HB.out))));have n2_:=Aside0.mk (below_step (by repeat (first|(with_reducible first|exact HB.out|apply below_alloc|apply pw_below_drewN|apply below_drew1)|exact HB.out)) hb);clear HB;have HO352:=n0_;have HO355:=n1_;have HB:=n2_;clear n0_ n1_ n2_;(try clear hb);(try clear hb2);(try clear hk);(try clear hi);(try clear ho0);(try clear ho1))|((with_reducible refine gate_dst (N:=3) rfl ?_);(try (refine gate_guard (by rfl) ?_;dsimp only));refine box_event ?hg (N:=3) ?hd (cs:=#[.string bz3,.slice none 0 0,.slice none 0 0]) (t:=56) ?hr ?_;(case hd=>rfl);(case hg=>rfl);(case hr=>first|(go_simp;done)|(go_simp;rfl));intro gb357 hg w7 hbox hb;have n0_:=Aside0.mk (Kd.V_below (Kd.V_elderB (by (with_reducible repeat (first|apply Kd.V_alloc|apply Kd.V_drewN|apply Kd.V_drew));exact HO352.out) gb357 (Nat.le_of_eq hg.symm)) hb);have n1_:=Aside0.mk (Kd.V_below (Kd.V_elderB (by (with_reducible repeat (first|apply Kd.V_alloc|apply Kd.V_drewN|apply Kd.V_drew));exact HO355.out) gb357 (Nat.le_of_eq hg.symm)) hb);have n2_:=Aside0.mk (below_step (by repeat (first|(with_reducible first|exact HB.out|apply below_alloc|apply pw_below_drewN|apply below_drew1)|exact HB.out)) hb);have n3_:=Aside0.mk (hbox);have n4_:=Aside0.mk ((by rw [hg];exact (below_size (by repeat (first|(with_reducible first|exact HB.out|apply below_alloc|apply pw_below_drewN|apply below_drew1)|exact HB.out))):w.heap.size≤gb357));have n5_:=Aside0.mk ((by rw [hg];exact (below_size (by repeat (first|(with_reducible first|exact HB.out|apply below_alloc|apply pw_below_drewN|apply below_drew1)|exact HB.out))):w.heap.size≤gb357));clear HO352;clear HO355;clear HB;have HO352:=n0_;have HO355:=n1_;have HB:=n2_;have BK357:=n3_;have GW357:=n4_;have GE357:=n5_;clear n0_ n1_ n2_ n3_ n4_ n5_;clear hb hbox hg;have hcz8_0:w7.cell? ⟨gb357,0,none⟩=some (.string bz3):=(blk_cell BK357.out 0).trans rfl;have hcz8_1:w7.cell? ⟨gb357,1,none⟩=some (.slice none 0 0):=(blk_cell BK357.out 1).trans rfl;have hcz8_2:w7.cell? ⟨gb357,2,none⟩=some (.slice none 0 0):=(blk_cell BK357.out 2).trans rfl;have hfz8_0:=blk_frozen BK357.out 0;have hfz8_1:=blk_frozen BK357.out 1;have hfz8_2:=blk_frozen BK357.out 2;obtain ⟨Ao9,co9,eo9⟩:=Kd.V_slice HO352.out;subst eo9;obtain ⟨Ao10,co10,eo10⟩:=Kd.V_slice HO355.out;subst eo10)|((with_reducible refine gate_callee (f:=51) rfl ?_);refine goesL_ (some 23) rfl rfl Tryd.func51 (by kernel_rfl) rfl #[.agg #[.string t349,.slice Ao9 t350.length co9,.slice Ao10 t353.length co10],.string t356] rfl (by (try simp only [List.map_toArray,List.map_cons,List.map_nil]);first|done|rfl|(simp only [List.length_drop,List.length_take];rfl)) ?_;(with_reducible refine (impl_WayOf.calls k t349 _ _ t350 _ _ t353 t356 t358 _ ?side1 ?side2 ?side3 ?side4 ?side5 A4.out).mono ?_);(case side1=>refine (Kd.V_reads' (e:=9) (base:=w.heap.size) (ok:=fun k_=>(True∧k_≠gb357)) (n:=t350.length) (c:=co9) ?_).2.2;exact (by (with_reducible repeat (first|apply Kd.V_alloc|apply Kd.V_drewN|apply Kd.V_drew));exact (Kd.V_mono (Kd.V_far (p:=⟨gb357,2,none⟩) (Kd.V_far (p:=⟨gb357,1,none⟩) (Kd.V_far (p:=⟨gb357,0,none⟩) (Kd.V_mono HO352.out (fun k_ hk=>(⟨hk,hk.2⟩:_∧k_≠gb357))) (fun _ hk=>hk.2) (.string t349)) (fun _ hk=>hk.2) (.slice Ao9 t350.length co9)) (fun _ hk=>hk.2) (.slice Ao10 t353.length co10)) (fun _ h_=>h_.1))));(case side2=>exact (Kd.V_reads' HO352.out).2.1);(case side3=>refine (Kd.V_reads' (e:=69) (base:=w.heap.size) (ok:=fun k_=>(True∧k_≠gb357)) (n:=t353.length) (c:=co10) ?_).2.2;exact (by (with_reducible repeat (first|apply Kd.V_alloc|apply Kd.V_drewN|apply Kd.V_drew));exact (Kd.V_mono (Kd.V_far (p:=⟨gb357,2,none⟩) (Kd.V_far (p:=⟨gb357,1,none⟩) (Kd.V_far (p:=⟨gb357,0,none⟩) (Kd.V_mono HO355.out (fun k_ hk=>(⟨hk,hk.2⟩:_∧k_≠gb357))) (fun _ hk=>hk.2) (.string t349)) (fun _ hk=>hk.2) (.slice Ao9 t350.length co9)) (fun _ hk=>hk.2) (.slice Ao10 t353.length co10)) (fun _ h_=>h_.1))));(case side4=>exact (Kd.V_reads' HO355.out).2.1);(case side5=>first|(with_reducible exact HG.out)|((with_reducible repeat (first|exact HG.out|apply GOK.drewN|apply GOK.drew));done)|exact GOK.below HG.out (by repeat (first|(with_reducible first|exact HB.out|apply below_alloc|apply pw_below_drewN|apply below_drew1|refine below_set ?_ GE357.out)|exact HB.out)));rintro e w11 ⟨rfl,hb⟩;refine ⟨_,rfl,?_⟩;have n0_:=Aside0.mk (Kd.V_below (by (with_reducible repeat (first|apply Kd.V_alloc|apply Kd.V_drewN|apply Kd.V_drew));exact (Kd.V_mono (Kd.V_far (p:=⟨gb357,2,none⟩) (Kd.V_far (p:=⟨gb357,1,none⟩) (Kd.V_far (p:=⟨gb357,0,none⟩) (Kd.V_mono HO352.out (fun k_ hk=>(⟨hk,hk.2⟩:_∧k_≠gb357))) (fun _ hk=>hk.2) (.string t349)) (fun _ hk=>hk.2) (.slice Ao9 t350.length co9)) (fun _ hk=>hk.2) (.slice Ao10 t353.length co10)) (fun _ h_=>h_.1))) hb);have n1_:=Aside0.mk (Kd.V_below (by (with_reducible repeat (first|apply Kd.V_alloc|apply Kd.V_drewN|apply Kd.V_drew));exact (Kd.V_mono (Kd.V_far (p:=⟨gb357,2,none⟩) (Kd.V_far (p:=⟨gb357,1,none⟩) (Kd.V_far (p:=⟨gb357,0,none⟩) (Kd.V_mono HO355.out (fun k_ hk=>(⟨hk,hk.2⟩:_∧k_≠gb357))) (fun _ hk=>hk.2) (.string t349)) (fun _ hk=>hk.2) (.slice Ao9 t350.length co9)) (fun _ hk=>hk.2) (.slice Ao10 t353.length co10)) (fun _ h_=>h_.1))) hb);have n2_:=Aside0.mk (blk_below (g:=gb357) (o:=.cells #[.string t349,.slice Ao9 t350.length co9,.slice Ao10 t353.length co10] 56 (0,0)) (by (with_reducible repeat (first|refine blk_drewN ?_ _|refine blk_drew ?_|refine blk_alloc ?_ _));refine blk_put (cs:=#[.string t349,.slice Ao9 t350.length co9,.slice none 0 0]) ?_ 2 _ rfl;(with_reducible repeat (first|refine blk_drewN ?_ _|refine blk_drew ?_|refine blk_alloc ?_ _));refine blk_put (cs:=#[.string t349,.slice none 0 0,.slice none 0 0]) ?_ 1 _ rfl;(with_reducible repeat (first|refine blk_drewN ?_ _|refine blk_drew ?_|refine blk_alloc ?_ _));refine blk_put (cs:=#[.string bz3,.slice none 0 0,.slice none 0 0]) ?_ 0 _ rfl;(with_reducible repeat (first|refine blk_drewN ?_ _|refine blk_drew ?_|refine blk_alloc ?_ _));exact BK357.out) hb);have n3_:=Aside0.mk (below_step (by repeat (first|(with_reducible first|exact HB.out|apply below_alloc|apply pw_below_drewN|apply below_drew1|refine below_set ?_ GE357.out)|exact HB.out)) hb);clear HO352;clear HO355;clear BK357;clear HB;have HO352:=n0_;have HO355:=n1_;have BK357:=n2_;have HB:=n3_;clear n0_ n1_ n2_ n3_;(try clear hb);(try clear hb2);(try clear hk);(try clear hi)))
    (try simp only [Act.put,List.setIfInBounds_toArray,List.set_cons_zero,List.set_cons_succ])
    go_cut [45] (fun v45 wc=>∃ (kq:Nat) (x45_4:Bool),v45=.bool x45_4∧Aside0 (laws_FnWay.j0 kq t356 t358 x45_4 t349 t350 t353=some r)∧Aside0 (kq≤k)∧Aside0 (Kd.V Kd.string 9 wc w.heap.size (fun k_=>k_≠gb357) (.slice Ao9 t350.length co9) t350)∧Aside0 (Kd.V k69 69 wc w.heap.size (fun k_=>k_≠gb357) (.slice Ao10 t353.length co10) t353)∧Aside0 (wc.heap[gb357]?=some (.cells #[.string t349,(.slice Ao9 t350.length co9),(.slice Ao10 t353.length co10)] 56 (0,0)))∧Aside0 (Below w.heap.size w wc))
    case first =>
      have H:=HC5.out
      clear HC5
      replace H:=Option.bind_eq_some_iff.mp H
      obtain ⟨t359,A120,H⟩:=H
      replace H:(if t358.toList=t359.toList then ((impl_ConfOk.f k t349 t350 t353).bind fun t360=>((spec_ConfOk.f k t349 t350 t353).bind fun t361=>(if (t360 != t361)=true then (laws_FnWay.j0 k t356 t358 true t349 t350 t353) else ((impl_ConfOk.f k t349 t350 t353).bind fun t362=>(if t362=true then ((impl_DomainOk.f k t356).bind fun t363=>(laws_FnWay.j0 k t356 t358 (!t363) t349 t350 t353)) else (laws_FnWay.j0 k t356 t358 true t349 t350 t353)))))) else (laws_FnWay.j0 k t356 t358 true t349 t350 t353))=some r:=H
      have A12:=Aside0.mk A120
      clear A120
      by_cases c13:t358.toList=t359.toList
      · rw [if_pos c13] at H
        have c13b0:(t358.toList==t359.toList)=true:=beq_iff_eq.mpr c13
        have c13b1:(t358.toList != t359.toList)=false:=bne_eq_false_iff_eq.mpr c13
        clear c13
        (first|rw [c13b0]|(simp only [i64_w,i32_w];rw [c13b0])|skip)
        replace H:=Option.bind_eq_some_iff.mp H
        obtain ⟨t360,A140,H⟩:=H
        replace H:((spec_ConfOk.f k t349 t350 t353).bind fun t361=>(if (t360 != t361)=true then (laws_FnWay.j0 k t356 t358 true t349 t350 t353) else ((impl_ConfOk.f k t349 t350 t353).bind fun t362=>(if t362=true then ((impl_DomainOk.f k t356).bind fun t363=>(laws_FnWay.j0 k t356 t358 (!t363) t349 t350 t353)) else (laws_FnWay.j0 k t356 t358 true t349 t350 t353)))))=some r:=H
        have A14:=Aside0.mk A140
        clear A140
        replace H:=Option.bind_eq_some_iff.mp H
        obtain ⟨t361,A150,H⟩:=H
        replace H:(if (t360 != t361)=true then (laws_FnWay.j0 k t356 t358 true t349 t350 t353) else ((impl_ConfOk.f k t349 t350 t353).bind fun t362=>(if t362=true then ((impl_DomainOk.f k t356).bind fun t363=>(laws_FnWay.j0 k t356 t358 (!t363) t349 t350 t353)) else (laws_FnWay.j0 k t356 t358 true t349 t350 t353))))=some r:=H
        have A15:=Aside0.mk A150
        clear A150
        by_cases c16:(t360 != t361)=true
        · rw [if_pos c16] at H
          have c16b0:(t360 != t361)=true:=c16
          (try (have c16b1:decide (t360=t361)=false:=by simpa using c16))
          (try (have c16b2:(t360==t361)=false:=by simpa using c16))
          (try (have c16b3:¬ (t360=t361):=by simpa using c16))
          clear c16
          have H':=Aside0.mk H
          clear H
          try go_wp2
          have n0_:=Aside0.mk (Kd.V_drew HO352.out)
          have n1_:=Aside0.mk (Kd.V_drew HO355.out)
          have n2_:=Aside0.mk (blk_drew BK357.out)
          have n3_:=Aside0.mk (below_drew1 HB.out)
          clear HO352
          clear HO355
          clear BK357
          clear HB
          have HO352:=n0_
          have HO355:=n1_
          have BK357:=n2_
          have HB:=n3_
          clear n0_ n1_ n2_ n3_
          refine start_ (n:=22) (S:=fun w'=>w'.cell? ⟨gb357,0,none⟩=some (.string t349)∧w'.cell? ⟨gb357,1,none⟩=some (.slice Ao9 t350.length co9)∧w'.cell? ⟨gb357,2,none⟩=some (.slice Ao10 t353.length co10)) (ds:=[]) #[false,false,false,false,false,false,false,false,false,false,false,false,false,false,false,false,false,false,false,false,false,false] (by kernel_rfl) rfl rfl ⟨(blk_cell BK357.out 0).trans rfl,(blk_cell BK357.out 1).trans rfl,(blk_cell BK357.out 2).trans rfl⟩ (fun hHeld=>?_);refine with_tabW laws_FnWay.tab5 laws_FnWay.bits5 (fun HT_ HW_=>?_)
          generalize w11.drew=w17 at HO352 HO355 BK357 HB hHeld ⊢
          refine pure_ (i:=0) (N:=some 24) (v:=?_) (a':=?_) #[true,false,false,false,false,false,false,false,false,false,false,false,false,false,false,false,false,false,false,false,false,false] rfl rfl (any_of HT_.out (by kernel_rfl)) (fun _ _ _ h=>h) (Or.inl ⟨by rfl,?_⟩) ?_ ?_
          rotate_left
          · intro w'
            go_simp
            with_reducible rfl
          rotate_left
          · simp only [Act.put,List.setIfInBounds_toArray,List.set_cons_zero,List.set_cons_succ,i64_w,i32_w]
            rfl
          refine pure_ (i:=2) (N:=some 26) (v:=?_) (a':=?_) #[true,false,true,false,false,false,false,false,false,false,false,false,false,false,false,false,false,false,false,false,false,false] rfl rfl (any_of HT_.out (by kernel_rfl)) (fun _ _ _ h=>h) (Or.inl ⟨by rfl,?_⟩) ?_ ?_
          rotate_left
          · intro w'
            go_simp
            with_reducible rfl
          rotate_left
          · simp only [Act.put,List.setIfInBounds_toArray,List.set_cons_zero,List.set_cons_succ,i64_w,i32_w]
            rfl
          refine take_ (i:=1) (N:=some 25) (v:=?_) (a':=?_) #[true,true,true,false,false,false,false,false,false,false,false,false,false,false,false,false,false,false,false,false,false,false] rfl rfl (take_ofW HT_.out HW_.out (by kernel_rfl)) (fun _ _ _ h=>h) (Or.inl ⟨by rfl,?_⟩) hHeld ?_ ?_
          rotate_left
          · rintro w' ⟨s0,s1,s2⟩
            go_simp
            with_reducible rfl
          rotate_left
          · simp only [Act.put,List.setIfInBounds_toArray,List.set_cons_zero,List.set_cons_succ,i64_w,i32_w]
            rfl
          refine one_ (i:=3) (N:=some 27) #[true,true,true,true,false,false,false,false,false,false,false,false,false,false,false,false,false,false,false,false,false,false] rfl rfl (one_of HT_.out (by kernel_rfl)) (by decide) (fun K hK=>?_)
          refine goes_ Tryd.func52 (by kernel_rfl) rfl #[.agg #[.string t349,.slice Ao9 t350.length co9,.slice Ao10 t353.length co10],.string t356] (by rfl) rfl rfl (by (try simp only [List.map_toArray,List.map_cons,List.map_nil]);first|done|rfl|(simp only [List.length_drop,List.length_take];rfl)) ?_
          with_reducible refine (spec_WayOf.calls k t349 _ _ t350 _ _ t353 t356 t359 _ ?side1 ?side2 ?side3 ?side4 A12.out).mono ?_
          (case side1=>repeat (first|exact (Kd.V_reads' HO352.out).2.2|(with_reducible refine Kd.C_alloc ?_ _)|(with_reducible refine Kd.C_drewN ?_ _)|(with_reducible refine Kd.C_drew ?_)))
          (case side2=>exact (Kd.V_reads' HO352.out).2.1)
          (case side3=>repeat (first|exact (Kd.V_reads' HO355.out).2.2|(with_reducible refine Kd.C_alloc ?_ _)|(with_reducible refine Kd.C_drewN ?_ _)|(with_reducible refine Kd.C_drew ?_)))
          (case side4=>exact (Kd.V_reads' HO355.out).2.1)
          rintro e w18 ⟨rfl,hb⟩
          refine ⟨_,rfl,?_⟩
          have n0_:=Aside0.mk (Kd.V_below (by (with_reducible repeat (first|apply Kd.V_alloc|apply Kd.V_drewN|apply Kd.V_drew));exact HO352.out) hb)
          have n1_:=Aside0.mk (Kd.V_below (by (with_reducible repeat (first|apply Kd.V_alloc|apply Kd.V_drewN|apply Kd.V_drew));exact HO355.out) hb)
          have n2_:=Aside0.mk (blk_below (g:=gb357) (o:=.cells #[.string t349,.slice Ao9 t350.length co9,.slice Ao10 t353.length co10] 56 (0,0)) (by (with_reducible repeat (first|refine blk_drewN ?_ _|refine blk_drew ?_|refine blk_alloc ?_ _));exact BK357.out) hb)
          have n3_:=Aside0.mk (below_step (by repeat (first|(with_reducible first|exact HB.out|apply below_alloc|apply pw_below_drewN|apply below_drew1|refine below_set ?_ GE357.out)|exact HB.out)) hb)
          clear HO352
          clear HO355
          clear BK357
          clear HB
          have HO352:=n0_
          have HO355:=n1_
          have BK357:=n2_
          have HB:=n3_
          clear n0_ n1_ n2_ n3_
          (try clear hb)
          (try clear hb2)
          (try clear hk)
          (try clear hi)
          refine hK.out _ _ ⟨(blk_cell BK357.out 0).trans rfl,(blk_cell BK357.out 1).trans rfl,(blk_cell BK357.out 2).trans rfl⟩ (fun hHeld=>?_)
          clear hK K
          refine norm_ (a':=?_) ?_ ?_
          rotate_left
          · show Act.put _ (some 27) _=_
            simp only [Act.put,List.setIfInBounds_toArray,List.set_cons_zero,List.set_cons_succ,i64_w,i32_w]
            rfl
          refine pure_ (i:=4) (N:=some 28) (v:=?_) (a':=?_) #[true,true,true,true,true,false,false,false,false,false,false,false,false,false,false,false,false,false,false,false,false,false] rfl rfl (any_of HT_.out (by kernel_rfl)) (fun _ _ _ h=>h) (Or.inl ⟨by rfl,?_⟩) ?_ ?_
          rotate_left
          · intro w'
            go_simp
            with_reducible rfl
          rotate_left
          · simp only [Act.put,List.setIfInBounds_toArray,List.set_cons_zero,List.set_cons_succ,i64_w,i32_w]
            rfl
          refine pure_ (i:=5) (N:=some 29) (v:=?_) (a':=?_) #[true,true,true,true,true,true,false,false,false,false,false,false,false,false,false,false,false,false,false,false,false,false] rfl rfl (any_of HT_.out (by kernel_rfl)) (fun _ _ _ h=>h) (Or.inl ⟨by rfl,?_⟩) ?_ ?_
          rotate_left
          · intro w'
            go_simp
            with_reducible rfl
          rotate_left
          · simp only [Act.put,List.setIfInBounds_toArray,List.set_cons_zero,List.set_cons_succ,i64_w,i32_w]
            rfl
          refine take_ (i:=6) (N:=some 30) (v:=?_) (a':=?_) #[true,true,true,true,true,true,true,false,false,false,false,false,false,false,false,false,false,false,false,false,false,false] rfl rfl (take_ofW HT_.out HW_.out (by kernel_rfl)) (fun _ _ _ h=>h) (Or.inl ⟨by rfl,?_⟩) hHeld ?_ ?_
          rotate_left
          · rintro w' ⟨s0,s1,s2⟩
            go_simp
            with_reducible rfl
          rotate_left
          · simp only [Act.put,List.setIfInBounds_toArray,List.set_cons_zero,List.set_cons_succ,i64_w,i32_w]
            rfl
          refine take_ (i:=8) (N:=some 32) (v:=?_) (a':=?_) #[true,true,true,true,true,true,true,false,true,false,false,false,false,false,false,false,false,false,false,false,false,false] rfl rfl (take_ofW HT_.out HW_.out (by kernel_rfl)) (fun _ _ _ h=>h) (Or.inl ⟨by rfl,?_⟩) hHeld ?_ ?_
          rotate_left
          · rintro w' ⟨s0,s1,s2⟩
            go_simp
            with_reducible rfl
          rotate_left
          · simp only [Act.put,List.setIfInBounds_toArray,List.set_cons_zero,List.set_cons_succ,i64_w,i32_w]
            rfl
          refine one_ (i:=7) (N:=some 31) #[true,true,true,true,true,true,true,true,true,false,false,false,false,false,false,false,false,false,false,false,false,false] rfl rfl (one_of HT_.out (by kernel_rfl)) (by decide) (fun K hK=>?_)
          refine goes_ Tryd.func42 (by kernel_rfl) rfl #[.agg #[.string t349,.slice Ao9 t350.length co9,.slice Ao10 t353.length co10]] (by rfl) rfl rfl (by (try simp only [List.map_toArray,List.map_cons,List.map_nil]);first|done|rfl|(simp only [List.length_drop,List.length_take];rfl)) ?_
          with_reducible refine (impl_ConfOk.calls k t349 _ _ t350 _ _ t353 _ _ ?side1 ?side2 ?side3 ?side4 ?side5 A14.out).mono ?_
          (case side1=>repeat (first|exact (Kd.V_reads' HO352.out).2.2|(with_reducible refine Kd.C_alloc ?_ _)|(with_reducible refine Kd.C_drewN ?_ _)|(with_reducible refine Kd.C_drew ?_)))
          (case side2=>exact (Kd.V_reads' HO352.out).2.1)
          (case side3=>repeat (first|exact (Kd.V_reads' HO355.out).2.2|(with_reducible refine Kd.C_alloc ?_ _)|(with_reducible refine Kd.C_drewN ?_ _)|(with_reducible refine Kd.C_drew ?_)))
          (case side4=>exact (Kd.V_reads' HO355.out).2.1)
          (case side5=>first|(with_reducible exact HG.out)|((with_reducible repeat (first|exact HG.out|apply GOK.drewN|apply GOK.drew));done)|exact GOK.below HG.out (by repeat (first|(with_reducible first|exact HB.out|apply below_alloc|apply pw_below_drewN|apply below_drew1|refine below_set ?_ GE357.out)|exact HB.out)))
          rintro e w19 ⟨rfl,hb⟩
          refine ⟨_,rfl,?_⟩
          have n0_:=Aside0.mk (Kd.V_below (by (with_reducible repeat (first|apply Kd.V_alloc|apply Kd.V_drewN|apply Kd.V_drew));exact HO352.out) hb)
          have n1_:=Aside0.mk (Kd.V_below (by (with_reducible repeat (first|apply Kd.V_alloc|apply Kd.V_drewN|apply Kd.V_drew));exact HO355.out) hb)
          have n2_:=Aside0.mk (blk_below (g:=gb357) (o:=.cells #[.string t349,.slice Ao9 t350.length co9,.slice Ao10 t353.length co10] 56 (0,0)) (by (with_reducible repeat (first|refine blk_drewN ?_ _|refine blk_drew ?_|refine blk_alloc ?_ _));exact BK357.out) hb)
          have n3_:=Aside0.mk (below_step (by repeat (first|(with_reducible first|exact HB.out|apply below_alloc|apply pw_below_drewN|apply below_drew1|refine below_set ?_ GE357.out)|exact HB.out)) hb)
          clear HO352
          clear HO355
          clear BK357
          clear HB
          have HO352:=n0_
          have HO355:=n1_
          have BK357:=n2_
          have HB:=n3_
          clear n0_ n1_ n2_ n3_
          (try clear hb)
          (try clear hb2)
          (try clear hk)
          (try clear hi)
          refine hK.out _ _ ⟨(blk_cell BK357.out 0).trans rfl,(blk_cell BK357.out 1).trans rfl,(blk_cell BK357.out 2).trans rfl⟩ (fun hHeld=>?_)
          clear hK K
          refine norm_ (a':=?_) ?_ ?_
          rotate_left
          · show Act.put _ (some 31) _=_
            simp only [Act.put,List.setIfInBounds_toArray,List.set_cons_zero,List.set_cons_succ,i64_w,i32_w]
            rfl
          refine one_ (i:=9) (N:=some 33) #[true,true,true,true,true,true,true,true,true,true,false,false,false,false,false,false,false,false,false,false,false,false] rfl rfl (one_of HT_.out (by kernel_rfl)) (by decide) (fun K hK=>?_)
          refine goes_ Tryd.func40 (by kernel_rfl) rfl #[.agg #[.string t349,.slice Ao9 t350.length co9,.slice Ao10 t353.length co10]] (by rfl) rfl rfl (by (try simp only [List.map_toArray,List.map_cons,List.map_nil]);first|done|rfl|(simp only [List.length_drop,List.length_take];rfl)) ?_
          with_reducible refine (spec_ConfOk.calls k t349 _ _ t350 _ _ t353 t361 _ ?side1 ?side2 ?side3 ?side4 A15.out).mono ?_
          (case side1=>repeat (first|exact (Kd.V_reads' HO352.out).2.2|(with_reducible refine Kd.C_alloc ?_ _)|(with_reducible refine Kd.C_drewN ?_ _)|(with_reducible refine Kd.C_drew ?_)))
          (case side2=>exact (Kd.V_reads' HO352.out).2.1)
          (case side3=>repeat (first|exact (Kd.V_reads' HO355.out).2.2|(with_reducible refine Kd.C_alloc ?_ _)|(with_reducible refine Kd.C_drewN ?_ _)|(with_reducible refine Kd.C_drew ?_)))
          (case side4=>exact (Kd.V_reads' HO355.out).2.1)
          rintro e w20 ⟨rfl,hb⟩
          refine ⟨_,rfl,?_⟩
          have n0_:=Aside0.mk (Kd.V_below (by (with_reducible repeat (first|apply Kd.V_alloc|apply Kd.V_drewN|apply Kd.V_drew));exact HO352.out) hb)
          have n1_:=Aside0.mk (Kd.V_below (by (with_reducible repeat (first|apply Kd.V_alloc|apply Kd.V_drewN|apply Kd.V_drew));exact HO355.out) hb)
          have n2_:=Aside0.mk (blk_below (g:=gb357) (o:=.cells #[.string t349,.slice Ao9 t350.length co9,.slice Ao10 t353.length co10] 56 (0,0)) (by (with_reducible repeat (first|refine blk_drewN ?_ _|refine blk_drew ?_|refine blk_alloc ?_ _));exact BK357.out) hb)
          have n3_:=Aside0.mk (below_step (by repeat (first|(with_reducible first|exact HB.out|apply below_alloc|apply pw_below_drewN|apply below_drew1|refine below_set ?_ GE357.out)|exact HB.out)) hb)
          clear HO352
          clear HO355
          clear BK357
          clear HB
          have HO352:=n0_
          have HO355:=n1_
          have BK357:=n2_
          have HB:=n3_
          clear n0_ n1_ n2_ n3_
          (try clear hb)
          (try clear hb2)
          (try clear hk)
          (try clear hi)
          refine hK.out _ _ ⟨(blk_cell BK357.out 0).trans rfl,(blk_cell BK357.out 1).trans rfl,(blk_cell BK357.out 2).trans rfl⟩ (fun hHeld=>?_)
          clear hK K
          refine norm_ (a':=?_) ?_ ?_
          rotate_left
          · show Act.put _ (some 33) _=_
            simp only [Act.put,List.setIfInBounds_toArray,List.set_cons_zero,List.set_cons_succ,i64_w,i32_w]
            rfl
          refine pure_ (i:=10) (N:=some 34) (v:=?_) (a':=?_) #[true,true,true,true,true,true,true,true,true,true,true,false,false,false,false,false,false,false,false,false,false,false] rfl rfl (any_of HT_.out (by kernel_rfl)) (fun _ _ _ h=>h) (Or.inl ⟨by rfl,?_⟩) ?_ ?_
          rotate_left
          · intro w'
            go_simp
            with_reducible rfl
          rotate_left
          · simp only [Act.put,List.setIfInBounds_toArray,List.set_cons_zero,List.set_cons_succ,i64_w,i32_w]
            rfl
          refine pure_ (i:=11) (N:=some 35) (v:=?_) (a':=?_) #[true,true,true,true,true,true,true,true,true,true,true,true,false,false,false,false,false,false,false,false,false,false] rfl rfl (any_of HT_.out (by kernel_rfl)) (fun _ _ _ h=>h) (Or.inl ⟨by rfl,?_⟩) ?_ ?_
          rotate_left
          · intro w'
            go_simp
            with_reducible rfl
          rotate_left
          · simp only [Act.put,List.setIfInBounds_toArray,List.set_cons_zero,List.set_cons_succ,i64_w,i32_w]
            rfl
          refine pure_ (i:=12) (N:=some 36) (v:=?_) (a':=?_) #[true,true,true,true,true,true,true,true,true,true,true,true,true,false,false,false,false,false,false,false,false,false] rfl rfl (any_of HT_.out (by kernel_rfl)) (fun _ _ _ h=>h) (Or.inl ⟨by rfl,?_⟩) ?_ ?_
          rotate_left
          · intro w'
            go_simp
            with_reducible rfl
          rotate_left
          · simp only [Act.put,List.setIfInBounds_toArray,List.set_cons_zero,List.set_cons_succ,i64_w,i32_w]
            rfl
          refine pure_ (i:=13) (N:=some 37) (v:=undef) (a':=?_) #[true,true,true,true,true,true,true,true,true,true,true,true,true,true,false,false,false,false,false,false,false,false] rfl rfl (any_of HT_.out (by kernel_rfl)) (fun _ _ _ h=>h) (Or.inr ⟨by rfl,rfl⟩) ?_ ?_
          rotate_left
          · simp only [Act.put,List.setIfInBounds_toArray,List.set_cons_zero,List.set_cons_succ,i64_w,i32_w]
            rfl
          refine pure_ (i:=14) (N:=some 38) (v:=undef) (a':=?_) #[true,true,true,true,true,true,true,true,true,true,true,true,true,true,true,false,false,false,false,false,false,false] rfl rfl (any_of HT_.out (by kernel_rfl)) (fun _ _ _ h=>h) (Or.inr ⟨by rfl,rfl⟩) ?_ ?_
          rotate_left
          · simp only [Act.put,List.setIfInBounds_toArray,List.set_cons_zero,List.set_cons_succ,i64_w,i32_w]
            rfl
          refine pure_ (i:=15) (N:=some 39) (v:=undef) (a':=?_) #[true,true,true,true,true,true,true,true,true,true,true,true,true,true,true,true,false,false,false,false,false,false] rfl rfl (any_of HT_.out (by kernel_rfl)) (fun _ _ _ h=>h) (Or.inr ⟨by rfl,rfl⟩) ?_ ?_
          rotate_left
          · simp only [Act.put,List.setIfInBounds_toArray,List.set_cons_zero,List.set_cons_succ,i64_w,i32_w]
            rfl
          refine pure_ (i:=16) (N:=some 40) (v:=?_) (a':=?_) #[true,true,true,true,true,true,true,true,true,true,true,true,true,true,true,true,true,false,false,false,false,false] rfl rfl (any_of HT_.out (by kernel_rfl)) (fun _ _ _ h=>h) (Or.inl ⟨by rfl,?_⟩) ?_ ?_
          rotate_left
          · intro w'
            go_simp
            with_reducible rfl
          rotate_left
          · simp only [Act.put,List.setIfInBounds_toArray,List.set_cons_zero,List.set_cons_succ,i64_w,i32_w]
            rfl
          refine pure_ (i:=17) (N:=some 41) (v:=?_) (a':=?_) #[true,true,true,true,true,true,true,true,true,true,true,true,true,true,true,true,true,true,false,false,false,false] rfl rfl (any_of HT_.out (by kernel_rfl)) (fun _ _ _ h=>h) (Or.inl ⟨by rfl,?_⟩) ?_ ?_
          rotate_left
          · intro w'
            go_simp
            with_reducible rfl
          rotate_left
          · simp only [Act.put,List.setIfInBounds_toArray,List.set_cons_zero,List.set_cons_succ,i64_w,i32_w]
            rfl
          refine pure_ (i:=18) (N:=some 42) (v:=undef) (a':=?_) #[true,true,true,true,true,true,true,true,true,true,true,true,true,true,true,true,true,true,true,false,false,false] rfl rfl (any_of HT_.out (by kernel_rfl)) (fun _ _ _ h=>h) (Or.inr ⟨by rfl,rfl⟩) ?_ ?_
          rotate_left
          · simp only [Act.put,List.setIfInBounds_toArray,List.set_cons_zero,List.set_cons_succ,i64_w,i32_w]
            rfl
          refine pure_ (i:=19) (N:=some 43) (v:=undef) (a':=?_) #[true,true,true,true,true,true,true,true,true,true,true,true,true,true,true,true,true,true,true,true,false,false] rfl rfl (any_of HT_.out (by kernel_rfl)) (fun _ _ _ h=>h) (Or.inr ⟨by rfl,rfl⟩) ?_ ?_
          rotate_left
          · simp only [Act.put,List.setIfInBounds_toArray,List.set_cons_zero,List.set_cons_succ,i64_w,i32_w]
            rfl
          refine pure_ (i:=20) (N:=some 44) (v:=undef) (a':=?_) #[true,true,true,true,true,true,true,true,true,true,true,true,true,true,true,true,true,true,true,true,true,false] rfl rfl (any_of HT_.out (by kernel_rfl)) (fun _ _ _ h=>h) (Or.inr ⟨by rfl,rfl⟩) ?_ ?_
          rotate_left
          · simp only [Act.put,List.setIfInBounds_toArray,List.set_cons_zero,List.set_cons_succ,i64_w,i32_w]
            rfl
          refine pure_ (i:=21) (N:=some 45) (v:=?_) (a':=?_) #[true,true,true,true,true,true,true,true,true,true,true,true,true,true,true,true,true,true,true,true,true,true] rfl rfl (any_of HT_.out (by kernel_rfl)) (fun _ _ _ h=>h) (Or.inl ⟨by rfl,?_⟩) ?_ ?_
          rotate_left
          · intro w'
            go_simp
            with_reducible rfl
          rotate_left
          · simp only [Act.put,List.setIfInBounds_toArray,List.set_cons_zero,List.set_cons_succ,i64_w,i32_w]
            rfl
          refine done_ (done_of HT_.out (by kernel_rfl)) ?_
          try go_wp2
          go_meet
          case rel=>exact ⟨_,(true),(by first|rfl|(simp;done)|(simp [*];done)),H',⟨by first|omega|exact Nat.le_refl _⟩,⟨by (with_reducible repeat (first|apply Kd.V_alloc|apply Kd.V_drewN|apply Kd.V_drew));exact Kd.V_mono HO352.out (fun _ hk=>hk.2)⟩,⟨by (with_reducible repeat (first|apply Kd.V_alloc|apply Kd.V_drewN|apply Kd.V_drew));exact Kd.V_mono HO355.out (fun _ hk=>hk.2)⟩,⟨by (with_reducible repeat (first|refine blk_drewN ?_ _|refine blk_drew ?_|refine blk_alloc ?_ _));exact BK357.out⟩,⟨by repeat (first|(with_reducible first|exact HB.out|apply below_alloc|apply pw_below_drewN|apply below_drew1|refine below_set ?_ GE357.out)|exact HB.out)⟩⟩
        · rw [if_neg c16] at H
          have c16b0:(t360 != t361)=false:=by simpa using c16
          (try (have c16b1:decide (t360=t361)=true:=by simpa using c16))
          (try (have c16b2:(t360==t361)=true:=by simpa using c16))
          clear c16
          replace H:=Option.bind_eq_some_iff.mp H
          obtain ⟨t362,A210,H⟩:=H
          replace H:(if t362=true then ((impl_DomainOk.f k t356).bind fun t363=>(laws_FnWay.j0 k t356 t358 (!t363) t349 t350 t353)) else (laws_FnWay.j0 k t356 t358 true t349 t350 t353))=some r:=H
          have A21:=Aside0.mk A210
          clear A210
          try (obtain rfl:t362=t360:=Option.some.inj (A21.out.symm.trans A14.out))
          by_cases c22:t362=true
          · subst c22
            have H1:((impl_DomainOk.f k t356).bind fun t363=>(laws_FnWay.j0 k t356 t358 (!t363) t349 t350 t353))=some r:=by rw [if_pos rfl] at H;exact H
            clear H
            have H:=H1
            clear H1
            replace H:=Option.bind_eq_some_iff.mp H
            obtain ⟨t363,A230,H⟩:=H
            replace H:(laws_FnWay.j0 k t356 t358 (!t363) t349 t350 t353)=some r:=H
            have A23:=Aside0.mk A230
            clear A230
            have H':=Aside0.mk H
            clear H
            try go_wp2
            have n0_:=Aside0.mk (Kd.V_drew HO352.out)
            have n1_:=Aside0.mk (Kd.V_drew HO355.out)
            have n2_:=Aside0.mk (blk_drew BK357.out)
            have n3_:=Aside0.mk (below_drew1 HB.out)
            clear HO352
            clear HO355
            clear BK357
            clear HB
            have HO352:=n0_
            have HO355:=n1_
            have BK357:=n2_
            have HB:=n3_
            clear n0_ n1_ n2_ n3_
            refine start_ (n:=22) (S:=fun w'=>w'.cell? ⟨gb357,0,none⟩=some (.string t349)∧w'.cell? ⟨gb357,1,none⟩=some (.slice Ao9 t350.length co9)∧w'.cell? ⟨gb357,2,none⟩=some (.slice Ao10 t353.length co10)) (ds:=[]) #[false,false,false,false,false,false,false,false,false,false,false,false,false,false,false,false,false,false,false,false,false,false] (by kernel_rfl) rfl rfl ⟨(blk_cell BK357.out 0).trans rfl,(blk_cell BK357.out 1).trans rfl,(blk_cell BK357.out 2).trans rfl⟩ (fun hHeld=>?_);refine with_tabW laws_FnWay.tab5 laws_FnWay.bits5 (fun HT_ HW_=>?_)
            generalize w11.drew=w24 at HO352 HO355 BK357 HB hHeld ⊢
            refine pure_ (i:=0) (N:=some 24) (v:=?_) (a':=?_) #[true,false,false,false,false,false,false,false,false,false,false,false,false,false,false,false,false,false,false,false,false,false] rfl rfl (any_of HT_.out (by kernel_rfl)) (fun _ _ _ h=>h) (Or.inl ⟨by rfl,?_⟩) ?_ ?_
            rotate_left
            · intro w'
              go_simp
              with_reducible rfl
            rotate_left
            · simp only [Act.put,List.setIfInBounds_toArray,List.set_cons_zero,List.set_cons_succ,i64_w,i32_w]
              rfl
            refine pure_ (i:=2) (N:=some 26) (v:=?_) (a':=?_) #[true,false,true,false,false,false,false,false,false,false,false,false,false,false,false,false,false,false,false,false,false,false] rfl rfl (any_of HT_.out (by kernel_rfl)) (fun _ _ _ h=>h) (Or.inl ⟨by rfl,?_⟩) ?_ ?_
            rotate_left
            · intro w'
              go_simp
              with_reducible rfl
            rotate_left
            · simp only [Act.put,List.setIfInBounds_toArray,List.set_cons_zero,List.set_cons_succ,i64_w,i32_w]
              rfl
            refine take_ (i:=1) (N:=some 25) (v:=?_) (a':=?_) #[true,true,true,false,false,false,false,false,false,false,false,false,false,false,false,false,false,false,false,false,false,false] rfl rfl (take_ofW HT_.out HW_.out (by kernel_rfl)) (fun _ _ _ h=>h) (Or.inl ⟨by rfl,?_⟩) hHeld ?_ ?_
            rotate_left
            · rintro w' ⟨s0,s1,s2⟩
              go_simp
              with_reducible rfl
            rotate_left
            · simp only [Act.put,List.setIfInBounds_toArray,List.set_cons_zero,List.set_cons_succ,i64_w,i32_w]
              rfl
            refine one_ (i:=3) (N:=some 27) #[true,true,true,true,false,false,false,false,false,false,false,false,false,false,false,false,false,false,false,false,false,false] rfl rfl (one_of HT_.out (by kernel_rfl)) (by decide) (fun K hK=>?_)
            refine goes_ Tryd.func52 (by kernel_rfl) rfl #[.agg #[.string t349,.slice Ao9 t350.length co9,.slice Ao10 t353.length co10],.string t356] (by rfl) rfl rfl (by (try simp only [List.map_toArray,List.map_cons,List.map_nil]);first|done|rfl|(simp only [List.length_drop,List.length_take];rfl)) ?_
            with_reducible refine (spec_WayOf.calls k t349 _ _ t350 _ _ t353 t356 t359 _ ?side1 ?side2 ?side3 ?side4 A12.out).mono ?_
            (case side1=>repeat (first|exact (Kd.V_reads' HO352.out).2.2|(with_reducible refine Kd.C_alloc ?_ _)|(with_reducible refine Kd.C_drewN ?_ _)|(with_reducible refine Kd.C_drew ?_)))
            (case side2=>exact (Kd.V_reads' HO352.out).2.1)
            (case side3=>repeat (first|exact (Kd.V_reads' HO355.out).2.2|(with_reducible refine Kd.C_alloc ?_ _)|(with_reducible refine Kd.C_drewN ?_ _)|(with_reducible refine Kd.C_drew ?_)))
            (case side4=>exact (Kd.V_reads' HO355.out).2.1)
            rintro e w25 ⟨rfl,hb⟩
            refine ⟨_,rfl,?_⟩
            have n0_:=Aside0.mk (Kd.V_below (by (with_reducible repeat (first|apply Kd.V_alloc|apply Kd.V_drewN|apply Kd.V_drew));exact HO352.out) hb)
            have n1_:=Aside0.mk (Kd.V_below (by (with_reducible repeat (first|apply Kd.V_alloc|apply Kd.V_drewN|apply Kd.V_drew));exact HO355.out) hb)
            have n2_:=Aside0.mk (blk_below (g:=gb357) (o:=.cells #[.string t349,.slice Ao9 t350.length co9,.slice Ao10 t353.length co10] 56 (0,0)) (by (with_reducible repeat (first|refine blk_drewN ?_ _|refine blk_drew ?_|refine blk_alloc ?_ _));exact BK357.out) hb)
            have n3_:=Aside0.mk (below_step (by repeat (first|(with_reducible first|exact HB.out|apply below_alloc|apply pw_below_drewN|apply below_drew1|refine below_set ?_ GE357.out)|exact HB.out)) hb)
            clear HO352
            clear HO355
            clear BK357
            clear HB
            have HO352:=n0_
            have HO355:=n1_
            have BK357:=n2_
            have HB:=n3_
            clear n0_ n1_ n2_ n3_
            (try clear hb)
            (try clear hb2)
            (try clear hk)
            (try clear hi)
            refine hK.out _ _ ⟨(blk_cell BK357.out 0).trans rfl,(blk_cell BK357.out 1).trans rfl,(blk_cell BK357.out 2).trans rfl⟩ (fun hHeld=>?_)
            clear hK K
            refine norm_ (a':=?_) ?_ ?_
            rotate_left
            · show Act.put _ (some 27) _=_
              simp only [Act.put,List.setIfInBounds_toArray,List.set_cons_zero,List.set_cons_succ,i64_w,i32_w]
              rfl
            refine pure_ (i:=4) (N:=some 28) (v:=?_) (a':=?_) #[true,true,true,true,true,false,false,false,false,false,false,false,false,false,false,false,false,false,false,false,false,false] rfl rfl (any_of HT_.out (by kernel_rfl)) (fun _ _ _ h=>h) (Or.inl ⟨by rfl,?_⟩) ?_ ?_
            rotate_left
            · intro w'
              go_simp
              with_reducible rfl
            rotate_left
            · simp only [Act.put,List.setIfInBounds_toArray,List.set_cons_zero,List.set_cons_succ,i64_w,i32_w]
              rfl
            refine pure_ (i:=5) (N:=some 29) (v:=?_) (a':=?_) #[true,true,true,true,true,true,false,false,false,false,false,false,false,false,false,false,false,false,false,false,false,false] rfl rfl (any_of HT_.out (by kernel_rfl)) (fun _ _ _ h=>h) (Or.inl ⟨by rfl,?_⟩) ?_ ?_
            rotate_left
            · intro w'
              go_simp
              with_reducible rfl
            rotate_left
            · simp only [Act.put,List.setIfInBounds_toArray,List.set_cons_zero,List.set_cons_succ,i64_w,i32_w]
              rfl
            refine take_ (i:=6) (N:=some 30) (v:=?_) (a':=?_) #[true,true,true,true,true,true,true,false,false,false,false,false,false,false,false,false,false,false,false,false,false,false] rfl rfl (take_ofW HT_.out HW_.out (by kernel_rfl)) (fun _ _ _ h=>h) (Or.inl ⟨by rfl,?_⟩) hHeld ?_ ?_
            rotate_left
            · rintro w' ⟨s0,s1,s2⟩
              go_simp
              with_reducible rfl
            rotate_left
            · simp only [Act.put,List.setIfInBounds_toArray,List.set_cons_zero,List.set_cons_succ,i64_w,i32_w]
              rfl
            refine take_ (i:=8) (N:=some 32) (v:=?_) (a':=?_) #[true,true,true,true,true,true,true,false,true,false,false,false,false,false,false,false,false,false,false,false,false,false] rfl rfl (take_ofW HT_.out HW_.out (by kernel_rfl)) (fun _ _ _ h=>h) (Or.inl ⟨by rfl,?_⟩) hHeld ?_ ?_
            rotate_left
            · rintro w' ⟨s0,s1,s2⟩
              go_simp
              with_reducible rfl
            rotate_left
            · simp only [Act.put,List.setIfInBounds_toArray,List.set_cons_zero,List.set_cons_succ,i64_w,i32_w]
              rfl
            refine one_ (i:=7) (N:=some 31) #[true,true,true,true,true,true,true,true,true,false,false,false,false,false,false,false,false,false,false,false,false,false] rfl rfl (one_of HT_.out (by kernel_rfl)) (by decide) (fun K hK=>?_)
            refine goes_ Tryd.func42 (by kernel_rfl) rfl #[.agg #[.string t349,.slice Ao9 t350.length co9,.slice Ao10 t353.length co10]] (by rfl) rfl rfl (by (try simp only [List.map_toArray,List.map_cons,List.map_nil]);first|done|rfl|(simp only [List.length_drop,List.length_take];rfl)) ?_
            with_reducible refine (impl_ConfOk.calls k t349 _ _ t350 _ _ t353 _ _ ?side1 ?side2 ?side3 ?side4 ?side5 A14.out).mono ?_
            (case side1=>repeat (first|exact (Kd.V_reads' HO352.out).2.2|(with_reducible refine Kd.C_alloc ?_ _)|(with_reducible refine Kd.C_drewN ?_ _)|(with_reducible refine Kd.C_drew ?_)))
            (case side2=>exact (Kd.V_reads' HO352.out).2.1)
            (case side3=>repeat (first|exact (Kd.V_reads' HO355.out).2.2|(with_reducible refine Kd.C_alloc ?_ _)|(with_reducible refine Kd.C_drewN ?_ _)|(with_reducible refine Kd.C_drew ?_)))
            (case side4=>exact (Kd.V_reads' HO355.out).2.1)
            (case side5=>first|(with_reducible exact HG.out)|((with_reducible repeat (first|exact HG.out|apply GOK.drewN|apply GOK.drew));done)|exact GOK.below HG.out (by repeat (first|(with_reducible first|exact HB.out|apply below_alloc|apply pw_below_drewN|apply below_drew1|refine below_set ?_ GE357.out)|exact HB.out)))
            rintro e w26 ⟨rfl,hb⟩
            refine ⟨_,rfl,?_⟩
            have n0_:=Aside0.mk (Kd.V_below (by (with_reducible repeat (first|apply Kd.V_alloc|apply Kd.V_drewN|apply Kd.V_drew));exact HO352.out) hb)
            have n1_:=Aside0.mk (Kd.V_below (by (with_reducible repeat (first|apply Kd.V_alloc|apply Kd.V_drewN|apply Kd.V_drew));exact HO355.out) hb)
            have n2_:=Aside0.mk (blk_below (g:=gb357) (o:=.cells #[.string t349,.slice Ao9 t350.length co9,.slice Ao10 t353.length co10] 56 (0,0)) (by (with_reducible repeat (first|refine blk_drewN ?_ _|refine blk_drew ?_|refine blk_alloc ?_ _));exact BK357.out) hb)
            have n3_:=Aside0.mk (below_step (by repeat (first|(with_reducible first|exact HB.out|apply below_alloc|apply pw_below_drewN|apply below_drew1|refine below_set ?_ GE357.out)|exact HB.out)) hb)
            clear HO352
            clear HO355
            clear BK357
            clear HB
            have HO352:=n0_
            have HO355:=n1_
            have BK357:=n2_
            have HB:=n3_
            clear n0_ n1_ n2_ n3_
            (try clear hb)
            (try clear hb2)
            (try clear hk)
            (try clear hi)
            refine hK.out _ _ ⟨(blk_cell BK357.out 0).trans rfl,(blk_cell BK357.out 1).trans rfl,(blk_cell BK357.out 2).trans rfl⟩ (fun hHeld=>?_)
            clear hK K
            refine norm_ (a':=?_) ?_ ?_
            rotate_left
            · show Act.put _ (some 31) _=_
              simp only [Act.put,List.setIfInBounds_toArray,List.set_cons_zero,List.set_cons_succ,i64_w,i32_w]
              rfl
            refine one_ (i:=9) (N:=some 33) #[true,true,true,true,true,true,true,true,true,true,false,false,false,false,false,false,false,false,false,false,false,false] rfl rfl (one_of HT_.out (by kernel_rfl)) (by decide) (fun K hK=>?_)
            refine goes_ Tryd.func40 (by kernel_rfl) rfl #[.agg #[.string t349,.slice Ao9 t350.length co9,.slice Ao10 t353.length co10]] (by rfl) rfl rfl (by (try simp only [List.map_toArray,List.map_cons,List.map_nil]);first|done|rfl|(simp only [List.length_drop,List.length_take];rfl)) ?_
            with_reducible refine (spec_ConfOk.calls k t349 _ _ t350 _ _ t353 t361 _ ?side1 ?side2 ?side3 ?side4 A15.out).mono ?_
            (case side1=>repeat (first|exact (Kd.V_reads' HO352.out).2.2|(with_reducible refine Kd.C_alloc ?_ _)|(with_reducible refine Kd.C_drewN ?_ _)|(with_reducible refine Kd.C_drew ?_)))
            (case side2=>exact (Kd.V_reads' HO352.out).2.1)
            (case side3=>repeat (first|exact (Kd.V_reads' HO355.out).2.2|(with_reducible refine Kd.C_alloc ?_ _)|(with_reducible refine Kd.C_drewN ?_ _)|(with_reducible refine Kd.C_drew ?_)))
            (case side4=>exact (Kd.V_reads' HO355.out).2.1)
            rintro e w27 ⟨rfl,hb⟩
            refine ⟨_,rfl,?_⟩
            have n0_:=Aside0.mk (Kd.V_below (by (with_reducible repeat (first|apply Kd.V_alloc|apply Kd.V_drewN|apply Kd.V_drew));exact HO352.out) hb)
            have n1_:=Aside0.mk (Kd.V_below (by (with_reducible repeat (first|apply Kd.V_alloc|apply Kd.V_drewN|apply Kd.V_drew));exact HO355.out) hb)
            have n2_:=Aside0.mk (blk_below (g:=gb357) (o:=.cells #[.string t349,.slice Ao9 t350.length co9,.slice Ao10 t353.length co10] 56 (0,0)) (by (with_reducible repeat (first|refine blk_drewN ?_ _|refine blk_drew ?_|refine blk_alloc ?_ _));exact BK357.out) hb)
            have n3_:=Aside0.mk (below_step (by repeat (first|(with_reducible first|exact HB.out|apply below_alloc|apply pw_below_drewN|apply below_drew1|refine below_set ?_ GE357.out)|exact HB.out)) hb)
            clear HO352
            clear HO355
            clear BK357
            clear HB
            have HO352:=n0_
            have HO355:=n1_
            have BK357:=n2_
            have HB:=n3_
            clear n0_ n1_ n2_ n3_
            (try clear hb)
            (try clear hb2)
            (try clear hk)
            (try clear hi)
            refine hK.out _ _ ⟨(blk_cell BK357.out 0).trans rfl,(blk_cell BK357.out 1).trans rfl,(blk_cell BK357.out 2).trans rfl⟩ (fun hHeld=>?_)
            clear hK K
            refine norm_ (a':=?_) ?_ ?_
            rotate_left
            · show Act.put _ (some 33) _=_
              simp only [Act.put,List.setIfInBounds_toArray,List.set_cons_zero,List.set_cons_succ,i64_w,i32_w]
              rfl
            refine pure_ (i:=10) (N:=some 34) (v:=?_) (a':=?_) #[true,true,true,true,true,true,true,true,true,true,true,false,false,false,false,false,false,false,false,false,false,false] rfl rfl (any_of HT_.out (by kernel_rfl)) (fun _ _ _ h=>h) (Or.inl ⟨by rfl,?_⟩) ?_ ?_
            rotate_left
            · intro w'
              go_simp
              with_reducible rfl
            rotate_left
            · simp only [Act.put,List.setIfInBounds_toArray,List.set_cons_zero,List.set_cons_succ,i64_w,i32_w]
              rfl
            refine pure_ (i:=11) (N:=some 35) (v:=?_) (a':=?_) #[true,true,true,true,true,true,true,true,true,true,true,true,false,false,false,false,false,false,false,false,false,false] rfl rfl (any_of HT_.out (by kernel_rfl)) (fun _ _ _ h=>h) (Or.inl ⟨by rfl,?_⟩) ?_ ?_
            rotate_left
            · intro w'
              go_simp
              with_reducible rfl
            rotate_left
            · simp only [Act.put,List.setIfInBounds_toArray,List.set_cons_zero,List.set_cons_succ,i64_w,i32_w]
              rfl
            refine pure_ (i:=12) (N:=some 36) (v:=?_) (a':=?_) #[true,true,true,true,true,true,true,true,true,true,true,true,true,false,false,false,false,false,false,false,false,false] rfl rfl (any_of HT_.out (by kernel_rfl)) (fun _ _ _ h=>h) (Or.inl ⟨by rfl,?_⟩) ?_ ?_
            rotate_left
            · intro w'
              go_simp
              with_reducible rfl
            rotate_left
            · simp only [Act.put,List.setIfInBounds_toArray,List.set_cons_zero,List.set_cons_succ,i64_w,i32_w]
              rfl
            refine take_ (i:=13) (N:=some 37) (v:=?_) (a':=?_) #[true,true,true,true,true,true,true,true,true,true,true,true,true,true,false,false,false,false,false,false,false,false] rfl rfl (take_ofW HT_.out HW_.out (by kernel_rfl)) (fun _ _ _ h=>h) (Or.inl ⟨by rfl,?_⟩) hHeld ?_ ?_
            rotate_left
            · rintro w' ⟨s0,s1,s2⟩
              go_simp
              with_reducible rfl
            rotate_left
            · simp only [Act.put,List.setIfInBounds_toArray,List.set_cons_zero,List.set_cons_succ,i64_w,i32_w]
              rfl
            refine one_ (i:=14) (N:=some 38) #[true,true,true,true,true,true,true,true,true,true,true,true,true,true,true,false,false,false,false,false,false,false] rfl rfl (one_of HT_.out (by kernel_rfl)) (by decide) (fun K hK=>?_)
            refine goes_ Tryd.func42 (by kernel_rfl) rfl #[.agg #[.string t349,.slice Ao9 t350.length co9,.slice Ao10 t353.length co10]] (by rfl) rfl rfl (by (try simp only [List.map_toArray,List.map_cons,List.map_nil]);first|done|rfl|(simp only [List.length_drop,List.length_take];rfl)) ?_
            with_reducible refine (impl_ConfOk.calls k t349 _ _ t350 _ _ t353 _ _ ?side1 ?side2 ?side3 ?side4 ?side5 A21.out).mono ?_
            (case side1=>repeat (first|exact (Kd.V_reads' HO352.out).2.2|(with_reducible refine Kd.C_alloc ?_ _)|(with_reducible refine Kd.C_drewN ?_ _)|(with_reducible refine Kd.C_drew ?_)))
            (case side2=>exact (Kd.V_reads' HO352.out).2.1)
            (case side3=>repeat (first|exact (Kd.V_reads' HO355.out).2.2|(with_reducible refine Kd.C_alloc ?_ _)|(with_reducible refine Kd.C_drewN ?_ _)|(with_reducible refine Kd.C_drew ?_)))
            (case side4=>exact (Kd.V_reads' HO355.out).2.1)
            (case side5=>first|(with_reducible exact HG.out)|((with_reducible repeat (first|exact HG.out|apply GOK.drewN|apply GOK.drew));done)|exact GOK.below HG.out (by repeat (first|(with_reducible first|exact HB.out|apply below_alloc|apply pw_below_drewN|apply below_drew1|refine below_set ?_ GE357.out)|exact HB.out)))
            rintro e w28 ⟨rfl,hb⟩
            refine ⟨_,rfl,?_⟩
            have n0_:=Aside0.mk (Kd.V_below (by (with_reducible repeat (first|apply Kd.V_alloc|apply Kd.V_drewN|apply Kd.V_drew));exact HO352.out) hb)
            have n1_:=Aside0.mk (Kd.V_below (by (with_reducible repeat (first|apply Kd.V_alloc|apply Kd.V_drewN|apply Kd.V_drew));exact HO355.out) hb)
            have n2_:=Aside0.mk (blk_below (g:=gb357) (o:=.cells #[.string t349,.slice Ao9 t350.length co9,.slice Ao10 t353.length co10] 56 (0,0)) (by (with_reducible repeat (first|refine blk_drewN ?_ _|refine blk_drew ?_|refine blk_alloc ?_ _));exact BK357.out) hb)
            have n3_:=Aside0.mk (below_step (by repeat (first|(with_reducible first|exact HB.out|apply below_alloc|apply pw_below_drewN|apply below_drew1|refine below_set ?_ GE357.out)|exact HB.out)) hb)
            clear HO352
            clear HO355
            clear BK357
            clear HB
            have HO352:=n0_
            have HO355:=n1_
            have BK357:=n2_
            have HB:=n3_
            clear n0_ n1_ n2_ n3_
            (try clear hb)
            (try clear hb2)
            (try clear hk)
            (try clear hi)
            refine hK.out _ _ ⟨(blk_cell BK357.out 0).trans rfl,(blk_cell BK357.out 1).trans rfl,(blk_cell BK357.out 2).trans rfl⟩ (fun hHeld=>?_)
            clear hK K
            refine norm_ (a':=?_) ?_ ?_
            rotate_left
            · show Act.put _ (some 38) _=_
              simp only [Act.put,List.setIfInBounds_toArray,List.set_cons_zero,List.set_cons_succ,i64_w,i32_w]
              rfl
            refine pure_ (i:=15) (N:=some 39) (v:=?_) (a':=?_) #[true,true,true,true,true,true,true,true,true,true,true,true,true,true,true,true,false,false,false,false,false,false] rfl rfl (any_of HT_.out (by kernel_rfl)) (fun _ _ _ h=>h) (Or.inl ⟨by rfl,?_⟩) ?_ ?_
            rotate_left
            · intro w'
              go_simp
              with_reducible rfl
            rotate_left
            · simp only [Act.put,List.setIfInBounds_toArray,List.set_cons_zero,List.set_cons_succ,i64_w,i32_w]
              rfl
            refine pure_ (i:=16) (N:=some 40) (v:=?_) (a':=?_) #[true,true,true,true,true,true,true,true,true,true,true,true,true,true,true,true,true,false,false,false,false,false] rfl rfl (any_of HT_.out (by kernel_rfl)) (fun _ _ _ h=>h) (Or.inl ⟨by rfl,?_⟩) ?_ ?_
            rotate_left
            · intro w'
              go_simp
              with_reducible rfl
            rotate_left
            · simp only [Act.put,List.setIfInBounds_toArray,List.set_cons_zero,List.set_cons_succ,i64_w,i32_w]
              rfl
            refine pure_ (i:=17) (N:=some 41) (v:=?_) (a':=?_) #[true,true,true,true,true,true,true,true,true,true,true,true,true,true,true,true,true,true,false,false,false,false] rfl rfl (any_of HT_.out (by kernel_rfl)) (fun _ _ _ h=>h) (Or.inl ⟨by rfl,?_⟩) ?_ ?_
            rotate_left
            · intro w'
              go_simp
              with_reducible rfl
            rotate_left
            · simp only [Act.put,List.setIfInBounds_toArray,List.set_cons_zero,List.set_cons_succ,i64_w,i32_w]
              rfl
            refine pure_ (i:=18) (N:=some 42) (v:=?_) (a':=?_) #[true,true,true,true,true,true,true,true,true,true,true,true,true,true,true,true,true,true,true,false,false,false] rfl rfl (any_of HT_.out (by kernel_rfl)) (fun _ _ _ h=>h) (Or.inl ⟨by rfl,?_⟩) ?_ ?_
            rotate_left
            · intro w'
              go_simp
              with_reducible rfl
            rotate_left
            · simp only [Act.put,List.setIfInBounds_toArray,List.set_cons_zero,List.set_cons_succ,i64_w,i32_w]
              rfl
            refine one_ (i:=19) (N:=some 43) #[true,true,true,true,true,true,true,true,true,true,true,true,true,true,true,true,true,true,true,true,false,false] rfl rfl (one_of HT_.out (by kernel_rfl)) (by decide) (fun K hK=>?_)
            refine goes_ Tryd.func18 (by kernel_rfl) rfl #[.string t356] (by rfl) rfl rfl (by (try simp only [List.map_toArray,List.map_cons,List.map_nil]);first|done|rfl|(simp only [List.length_drop,List.length_take];rfl)) ?_
            with_reducible refine (impl_DomainOk.calls k t356 t363 _ ?side1 A23.out).mono ?_
            (case side1=>first|(with_reducible exact HG.out)|((with_reducible repeat (first|exact HG.out|apply GOK.drewN|apply GOK.drew));done)|exact GOK.below HG.out (by repeat (first|(with_reducible first|exact HB.out|apply below_alloc|apply pw_below_drewN|apply below_drew1|refine below_set ?_ GE357.out)|exact HB.out)))
            rintro e w29 ⟨rfl,hb⟩
            refine ⟨_,rfl,?_⟩
            have n0_:=Aside0.mk (Kd.V_below (by (with_reducible repeat (first|apply Kd.V_alloc|apply Kd.V_drewN|apply Kd.V_drew));exact HO352.out) hb)
            have n1_:=Aside0.mk (Kd.V_below (by (with_reducible repeat (first|apply Kd.V_alloc|apply Kd.V_drewN|apply Kd.V_drew));exact HO355.out) hb)
            have n2_:=Aside0.mk (blk_below (g:=gb357) (o:=.cells #[.string t349,.slice Ao9 t350.length co9,.slice Ao10 t353.length co10] 56 (0,0)) (by (with_reducible repeat (first|refine blk_drewN ?_ _|refine blk_drew ?_|refine blk_alloc ?_ _));exact BK357.out) hb)
            have n3_:=Aside0.mk (below_step (by repeat (first|(with_reducible first|exact HB.out|apply below_alloc|apply pw_below_drewN|apply below_drew1|refine below_set ?_ GE357.out)|exact HB.out)) hb)
            clear HO352
            clear HO355
            clear BK357
            clear HB
            have HO352:=n0_
            have HO355:=n1_
            have BK357:=n2_
            have HB:=n3_
            clear n0_ n1_ n2_ n3_
            (try clear hb)
            (try clear hb2)
            (try clear hk)
            (try clear hi)
            refine hK.out _ _ ⟨(blk_cell BK357.out 0).trans rfl,(blk_cell BK357.out 1).trans rfl,(blk_cell BK357.out 2).trans rfl⟩ (fun hHeld=>?_)
            clear hK K
            refine norm_ (a':=?_) ?_ ?_
            rotate_left
            · show Act.put _ (some 43) _=_
              simp only [Act.put,List.setIfInBounds_toArray,List.set_cons_zero,List.set_cons_succ,i64_w,i32_w]
              rfl
            refine pure_ (i:=20) (N:=some 44) (v:=?_) (a':=?_) #[true,true,true,true,true,true,true,true,true,true,true,true,true,true,true,true,true,true,true,true,true,false] rfl rfl (any_of HT_.out (by kernel_rfl)) (fun _ _ _ h=>h) (Or.inl ⟨by rfl,?_⟩) ?_ ?_
            rotate_left
            · intro w'
              go_simp
              with_reducible rfl
            rotate_left
            · simp only [Act.put,List.setIfInBounds_toArray,List.set_cons_zero,List.set_cons_succ,i64_w,i32_w]
              rfl
            refine pure_ (i:=21) (N:=some 45) (v:=?_) (a':=?_) #[true,true,true,true,true,true,true,true,true,true,true,true,true,true,true,true,true,true,true,true,true,true] rfl rfl (any_of HT_.out (by kernel_rfl)) (fun _ _ _ h=>h) (Or.inl ⟨by rfl,?_⟩) ?_ ?_
            rotate_left
            · intro w'
              go_simp
              with_reducible rfl
            rotate_left
            · simp only [Act.put,List.setIfInBounds_toArray,List.set_cons_zero,List.set_cons_succ,i64_w,i32_w]
              rfl
            refine done_ (done_of HT_.out (by kernel_rfl)) ?_
            try go_wp2
            go_meet
            case rel=>exact ⟨_,(!t363),(by first|rfl|(simp;done)|(simp [*];done)),H',⟨by first|omega|exact Nat.le_refl _⟩,⟨by (with_reducible repeat (first|apply Kd.V_alloc|apply Kd.V_drewN|apply Kd.V_drew));exact Kd.V_mono HO352.out (fun _ hk=>hk.2)⟩,⟨by (with_reducible repeat (first|apply Kd.V_alloc|apply Kd.V_drewN|apply Kd.V_drew));exact Kd.V_mono HO355.out (fun _ hk=>hk.2)⟩,⟨by (with_reducible repeat (first|refine blk_drewN ?_ _|refine blk_drew ?_|refine blk_alloc ?_ _));exact BK357.out⟩,⟨by repeat (first|(with_reducible first|exact HB.out|apply below_alloc|apply pw_below_drewN|apply below_drew1|refine below_set ?_ GE357.out)|exact HB.out)⟩⟩
          · replace c22:=Bool.eq_false_iff.mpr c22
            subst c22
            have H1:(laws_FnWay.j0 k t356 t358 true t349 t350 t353)=some r:=by rw [if_neg (show ¬ (false=true) by decide)] at H;exact H
            clear H
            have H:=H1
            clear H1
            have H':=Aside0.mk H
            clear H
            try go_wp2
            have n0_:=Aside0.mk (Kd.V_drew HO352.out)
            have n1_:=Aside0.mk (Kd.V_drew HO355.out)
            have n2_:=Aside0.mk (blk_drew BK357.out)
            have n3_:=Aside0.mk (below_drew1 HB.out)
            clear HO352
            clear HO355
            clear BK357
            clear HB
            have HO352:=n0_
            have HO355:=n1_
            have BK357:=n2_
            have HB:=n3_
            clear n0_ n1_ n2_ n3_
            refine start_ (n:=22) (S:=fun w'=>w'.cell? ⟨gb357,0,none⟩=some (.string t349)∧w'.cell? ⟨gb357,1,none⟩=some (.slice Ao9 t350.length co9)∧w'.cell? ⟨gb357,2,none⟩=some (.slice Ao10 t353.length co10)) (ds:=[]) #[false,false,false,false,false,false,false,false,false,false,false,false,false,false,false,false,false,false,false,false,false,false] (by kernel_rfl) rfl rfl ⟨(blk_cell BK357.out 0).trans rfl,(blk_cell BK357.out 1).trans rfl,(blk_cell BK357.out 2).trans rfl⟩ (fun hHeld=>?_);refine with_tabW laws_FnWay.tab5 laws_FnWay.bits5 (fun HT_ HW_=>?_)
            generalize w11.drew=w30 at HO352 HO355 BK357 HB hHeld ⊢
            refine pure_ (i:=0) (N:=some 24) (v:=?_) (a':=?_) #[true,false,false,false,false,false,false,false,false,false,false,false,false,false,false,false,false,false,false,false,false,false] rfl rfl (any_of HT_.out (by kernel_rfl)) (fun _ _ _ h=>h) (Or.inl ⟨by rfl,?_⟩) ?_ ?_
            rotate_left
            · intro w'
              go_simp
              with_reducible rfl
            rotate_left
            · simp only [Act.put,List.setIfInBounds_toArray,List.set_cons_zero,List.set_cons_succ,i64_w,i32_w]
              rfl
            refine pure_ (i:=2) (N:=some 26) (v:=?_) (a':=?_) #[true,false,true,false,false,false,false,false,false,false,false,false,false,false,false,false,false,false,false,false,false,false] rfl rfl (any_of HT_.out (by kernel_rfl)) (fun _ _ _ h=>h) (Or.inl ⟨by rfl,?_⟩) ?_ ?_
            rotate_left
            · intro w'
              go_simp
              with_reducible rfl
            rotate_left
            · simp only [Act.put,List.setIfInBounds_toArray,List.set_cons_zero,List.set_cons_succ,i64_w,i32_w]
              rfl
            refine take_ (i:=1) (N:=some 25) (v:=?_) (a':=?_) #[true,true,true,false,false,false,false,false,false,false,false,false,false,false,false,false,false,false,false,false,false,false] rfl rfl (take_ofW HT_.out HW_.out (by kernel_rfl)) (fun _ _ _ h=>h) (Or.inl ⟨by rfl,?_⟩) hHeld ?_ ?_
            rotate_left
            · rintro w' ⟨s0,s1,s2⟩
              go_simp
              with_reducible rfl
            rotate_left
            · simp only [Act.put,List.setIfInBounds_toArray,List.set_cons_zero,List.set_cons_succ,i64_w,i32_w]
              rfl
            refine one_ (i:=3) (N:=some 27) #[true,true,true,true,false,false,false,false,false,false,false,false,false,false,false,false,false,false,false,false,false,false] rfl rfl (one_of HT_.out (by kernel_rfl)) (by decide) (fun K hK=>?_)
            refine goes_ Tryd.func52 (by kernel_rfl) rfl #[.agg #[.string t349,.slice Ao9 t350.length co9,.slice Ao10 t353.length co10],.string t356] (by rfl) rfl rfl (by (try simp only [List.map_toArray,List.map_cons,List.map_nil]);first|done|rfl|(simp only [List.length_drop,List.length_take];rfl)) ?_
            with_reducible refine (spec_WayOf.calls k t349 _ _ t350 _ _ t353 t356 t359 _ ?side1 ?side2 ?side3 ?side4 A12.out).mono ?_
            (case side1=>repeat (first|exact (Kd.V_reads' HO352.out).2.2|(with_reducible refine Kd.C_alloc ?_ _)|(with_reducible refine Kd.C_drewN ?_ _)|(with_reducible refine Kd.C_drew ?_)))
            (case side2=>exact (Kd.V_reads' HO352.out).2.1)
            (case side3=>repeat (first|exact (Kd.V_reads' HO355.out).2.2|(with_reducible refine Kd.C_alloc ?_ _)|(with_reducible refine Kd.C_drewN ?_ _)|(with_reducible refine Kd.C_drew ?_)))
            (case side4=>exact (Kd.V_reads' HO355.out).2.1)
            rintro e w31 ⟨rfl,hb⟩
            refine ⟨_,rfl,?_⟩
            have n0_:=Aside0.mk (Kd.V_below (by (with_reducible repeat (first|apply Kd.V_alloc|apply Kd.V_drewN|apply Kd.V_drew));exact HO352.out) hb)
            have n1_:=Aside0.mk (Kd.V_below (by (with_reducible repeat (first|apply Kd.V_alloc|apply Kd.V_drewN|apply Kd.V_drew));exact HO355.out) hb)
            have n2_:=Aside0.mk (blk_below (g:=gb357) (o:=.cells #[.string t349,.slice Ao9 t350.length co9,.slice Ao10 t353.length co10] 56 (0,0)) (by (with_reducible repeat (first|refine blk_drewN ?_ _|refine blk_drew ?_|refine blk_alloc ?_ _));exact BK357.out) hb)
            have n3_:=Aside0.mk (below_step (by repeat (first|(with_reducible first|exact HB.out|apply below_alloc|apply pw_below_drewN|apply below_drew1|refine below_set ?_ GE357.out)|exact HB.out)) hb)
            clear HO352
            clear HO355
            clear BK357
            clear HB
            have HO352:=n0_
            have HO355:=n1_
            have BK357:=n2_
            have HB:=n3_
            clear n0_ n1_ n2_ n3_
            (try clear hb)
            (try clear hb2)
            (try clear hk)
            (try clear hi)
            refine hK.out _ _ ⟨(blk_cell BK357.out 0).trans rfl,(blk_cell BK357.out 1).trans rfl,(blk_cell BK357.out 2).trans rfl⟩ (fun hHeld=>?_)
            clear hK K
            refine norm_ (a':=?_) ?_ ?_
            rotate_left
            · show Act.put _ (some 27) _=_
              simp only [Act.put,List.setIfInBounds_toArray,List.set_cons_zero,List.set_cons_succ,i64_w,i32_w]
              rfl
            refine pure_ (i:=4) (N:=some 28) (v:=?_) (a':=?_) #[true,true,true,true,true,false,false,false,false,false,false,false,false,false,false,false,false,false,false,false,false,false] rfl rfl (any_of HT_.out (by kernel_rfl)) (fun _ _ _ h=>h) (Or.inl ⟨by rfl,?_⟩) ?_ ?_
            rotate_left
            · intro w'
              go_simp
              with_reducible rfl
            rotate_left
            · simp only [Act.put,List.setIfInBounds_toArray,List.set_cons_zero,List.set_cons_succ,i64_w,i32_w]
              rfl
            refine pure_ (i:=5) (N:=some 29) (v:=?_) (a':=?_) #[true,true,true,true,true,true,false,false,false,false,false,false,false,false,false,false,false,false,false,false,false,false] rfl rfl (any_of HT_.out (by kernel_rfl)) (fun _ _ _ h=>h) (Or.inl ⟨by rfl,?_⟩) ?_ ?_
            rotate_left
            · intro w'
              go_simp
              with_reducible rfl
            rotate_left
            · simp only [Act.put,List.setIfInBounds_toArray,List.set_cons_zero,List.set_cons_succ,i64_w,i32_w]
              rfl
            refine take_ (i:=6) (N:=some 30) (v:=?_) (a':=?_) #[true,true,true,true,true,true,true,false,false,false,false,false,false,false,false,false,false,false,false,false,false,false] rfl rfl (take_ofW HT_.out HW_.out (by kernel_rfl)) (fun _ _ _ h=>h) (Or.inl ⟨by rfl,?_⟩) hHeld ?_ ?_
            rotate_left
            · rintro w' ⟨s0,s1,s2⟩
              go_simp
              with_reducible rfl
            rotate_left
            · simp only [Act.put,List.setIfInBounds_toArray,List.set_cons_zero,List.set_cons_succ,i64_w,i32_w]
              rfl
            refine take_ (i:=8) (N:=some 32) (v:=?_) (a':=?_) #[true,true,true,true,true,true,true,false,true,false,false,false,false,false,false,false,false,false,false,false,false,false] rfl rfl (take_ofW HT_.out HW_.out (by kernel_rfl)) (fun _ _ _ h=>h) (Or.inl ⟨by rfl,?_⟩) hHeld ?_ ?_
            rotate_left
            · rintro w' ⟨s0,s1,s2⟩
              go_simp
              with_reducible rfl
            rotate_left
            · simp only [Act.put,List.setIfInBounds_toArray,List.set_cons_zero,List.set_cons_succ,i64_w,i32_w]
              rfl
            refine one_ (i:=7) (N:=some 31) #[true,true,true,true,true,true,true,true,true,false,false,false,false,false,false,false,false,false,false,false,false,false] rfl rfl (one_of HT_.out (by kernel_rfl)) (by decide) (fun K hK=>?_)
            refine goes_ Tryd.func42 (by kernel_rfl) rfl #[.agg #[.string t349,.slice Ao9 t350.length co9,.slice Ao10 t353.length co10]] (by rfl) rfl rfl (by (try simp only [List.map_toArray,List.map_cons,List.map_nil]);first|done|rfl|(simp only [List.length_drop,List.length_take];rfl)) ?_
            with_reducible refine (impl_ConfOk.calls k t349 _ _ t350 _ _ t353 _ _ ?side1 ?side2 ?side3 ?side4 ?side5 A14.out).mono ?_
            (case side1=>repeat (first|exact (Kd.V_reads' HO352.out).2.2|(with_reducible refine Kd.C_alloc ?_ _)|(with_reducible refine Kd.C_drewN ?_ _)|(with_reducible refine Kd.C_drew ?_)))
            (case side2=>exact (Kd.V_reads' HO352.out).2.1)
            (case side3=>repeat (first|exact (Kd.V_reads' HO355.out).2.2|(with_reducible refine Kd.C_alloc ?_ _)|(with_reducible refine Kd.C_drewN ?_ _)|(with_reducible refine Kd.C_drew ?_)))
            (case side4=>exact (Kd.V_reads' HO355.out).2.1)
            (case side5=>first|(with_reducible exact HG.out)|((with_reducible repeat (first|exact HG.out|apply GOK.drewN|apply GOK.drew));done)|exact GOK.below HG.out (by repeat (first|(with_reducible first|exact HB.out|apply below_alloc|apply pw_below_drewN|apply below_drew1|refine below_set ?_ GE357.out)|exact HB.out)))
            rintro e w32 ⟨rfl,hb⟩
            refine ⟨_,rfl,?_⟩
            have n0_:=Aside0.mk (Kd.V_below (by (with_reducible repeat (first|apply Kd.V_alloc|apply Kd.V_drewN|apply Kd.V_drew));exact HO352.out) hb)
            have n1_:=Aside0.mk (Kd.V_below (by (with_reducible repeat (first|apply Kd.V_alloc|apply Kd.V_drewN|apply Kd.V_drew));exact HO355.out) hb)
            have n2_:=Aside0.mk (blk_below (g:=gb357) (o:=.cells #[.string t349,.slice Ao9 t350.length co9,.slice Ao10 t353.length co10] 56 (0,0)) (by (with_reducible repeat (first|refine blk_drewN ?_ _|refine blk_drew ?_|refine blk_alloc ?_ _));exact BK357.out) hb)
            have n3_:=Aside0.mk (below_step (by repeat (first|(with_reducible first|exact HB.out|apply below_alloc|apply pw_below_drewN|apply below_drew1|refine below_set ?_ GE357.out)|exact HB.out)) hb)
            clear HO352
            clear HO355
            clear BK357
            clear HB
            have HO352:=n0_
            have HO355:=n1_
            have BK357:=n2_
            have HB:=n3_
            clear n0_ n1_ n2_ n3_
            (try clear hb)
            (try clear hb2)
            (try clear hk)
            (try clear hi)
            refine hK.out _ _ ⟨(blk_cell BK357.out 0).trans rfl,(blk_cell BK357.out 1).trans rfl,(blk_cell BK357.out 2).trans rfl⟩ (fun hHeld=>?_)
            clear hK K
            refine norm_ (a':=?_) ?_ ?_
            rotate_left
            · show Act.put _ (some 31) _=_
              simp only [Act.put,List.setIfInBounds_toArray,List.set_cons_zero,List.set_cons_succ,i64_w,i32_w]
              rfl
            refine one_ (i:=9) (N:=some 33) #[true,true,true,true,true,true,true,true,true,true,false,false,false,false,false,false,false,false,false,false,false,false] rfl rfl (one_of HT_.out (by kernel_rfl)) (by decide) (fun K hK=>?_)
            refine goes_ Tryd.func40 (by kernel_rfl) rfl #[.agg #[.string t349,.slice Ao9 t350.length co9,.slice Ao10 t353.length co10]] (by rfl) rfl rfl (by (try simp only [List.map_toArray,List.map_cons,List.map_nil]);first|done|rfl|(simp only [List.length_drop,List.length_take];rfl)) ?_
            with_reducible refine (spec_ConfOk.calls k t349 _ _ t350 _ _ t353 t361 _ ?side1 ?side2 ?side3 ?side4 A15.out).mono ?_
            (case side1=>repeat (first|exact (Kd.V_reads' HO352.out).2.2|(with_reducible refine Kd.C_alloc ?_ _)|(with_reducible refine Kd.C_drewN ?_ _)|(with_reducible refine Kd.C_drew ?_)))
            (case side2=>exact (Kd.V_reads' HO352.out).2.1)
            (case side3=>repeat (first|exact (Kd.V_reads' HO355.out).2.2|(with_reducible refine Kd.C_alloc ?_ _)|(with_reducible refine Kd.C_drewN ?_ _)|(with_reducible refine Kd.C_drew ?_)))
            (case side4=>exact (Kd.V_reads' HO355.out).2.1)
            rintro e w33 ⟨rfl,hb⟩
            refine ⟨_,rfl,?_⟩
            have n0_:=Aside0.mk (Kd.V_below (by (with_reducible repeat (first|apply Kd.V_alloc|apply Kd.V_drewN|apply Kd.V_drew));exact HO352.out) hb)
            have n1_:=Aside0.mk (Kd.V_below (by (with_reducible repeat (first|apply Kd.V_alloc|apply Kd.V_drewN|apply Kd.V_drew));exact HO355.out) hb)
            have n2_:=Aside0.mk (blk_below (g:=gb357) (o:=.cells #[.string t349,.slice Ao9 t350.length co9,.slice Ao10 t353.length co10] 56 (0,0)) (by (with_reducible repeat (first|refine blk_drewN ?_ _|refine blk_drew ?_|refine blk_alloc ?_ _));exact BK357.out) hb)
            have n3_:=Aside0.mk (below_step (by repeat (first|(with_reducible first|exact HB.out|apply below_alloc|apply pw_below_drewN|apply below_drew1|refine below_set ?_ GE357.out)|exact HB.out)) hb)
            clear HO352
            clear HO355
            clear BK357
            clear HB
            have HO352:=n0_
            have HO355:=n1_
            have BK357:=n2_
            have HB:=n3_
            clear n0_ n1_ n2_ n3_
            (try clear hb)
            (try clear hb2)
            (try clear hk)
            (try clear hi)
            refine hK.out _ _ ⟨(blk_cell BK357.out 0).trans rfl,(blk_cell BK357.out 1).trans rfl,(blk_cell BK357.out 2).trans rfl⟩ (fun hHeld=>?_)
            clear hK K
            refine norm_ (a':=?_) ?_ ?_
            rotate_left
            · show Act.put _ (some 33) _=_
              simp only [Act.put,List.setIfInBounds_toArray,List.set_cons_zero,List.set_cons_succ,i64_w,i32_w]
              rfl
            refine pure_ (i:=10) (N:=some 34) (v:=?_) (a':=?_) #[true,true,true,true,true,true,true,true,true,true,true,false,false,false,false,false,false,false,false,false,false,false] rfl rfl (any_of HT_.out (by kernel_rfl)) (fun _ _ _ h=>h) (Or.inl ⟨by rfl,?_⟩) ?_ ?_
            rotate_left
            · intro w'
              go_simp
              with_reducible rfl
            rotate_left
            · simp only [Act.put,List.setIfInBounds_toArray,List.set_cons_zero,List.set_cons_succ,i64_w,i32_w]
              rfl
            refine pure_ (i:=11) (N:=some 35) (v:=?_) (a':=?_) #[true,true,true,true,true,true,true,true,true,true,true,true,false,false,false,false,false,false,false,false,false,false] rfl rfl (any_of HT_.out (by kernel_rfl)) (fun _ _ _ h=>h) (Or.inl ⟨by rfl,?_⟩) ?_ ?_
            rotate_left
            · intro w'
              go_simp
              with_reducible rfl
            rotate_left
            · simp only [Act.put,List.setIfInBounds_toArray,List.set_cons_zero,List.set_cons_succ,i64_w,i32_w]
              rfl
            refine pure_ (i:=12) (N:=some 36) (v:=?_) (a':=?_) #[true,true,true,true,true,true,true,true,true,true,true,true,true,false,false,false,false,false,false,false,false,false] rfl rfl (any_of HT_.out (by kernel_rfl)) (fun _ _ _ h=>h) (Or.inl ⟨by rfl,?_⟩) ?_ ?_
            rotate_left
            · intro w'
              go_simp
              with_reducible rfl
            rotate_left
            · simp only [Act.put,List.setIfInBounds_toArray,List.set_cons_zero,List.set_cons_succ,i64_w,i32_w]
              rfl
            refine take_ (i:=13) (N:=some 37) (v:=?_) (a':=?_) #[true,true,true,true,true,true,true,true,true,true,true,true,true,true,false,false,false,false,false,false,false,false] rfl rfl (take_ofW HT_.out HW_.out (by kernel_rfl)) (fun _ _ _ h=>h) (Or.inl ⟨by rfl,?_⟩) hHeld ?_ ?_
            rotate_left
            · rintro w' ⟨s0,s1,s2⟩
              go_simp
              with_reducible rfl
            rotate_left
            · simp only [Act.put,List.setIfInBounds_toArray,List.set_cons_zero,List.set_cons_succ,i64_w,i32_w]
              rfl
            refine one_ (i:=14) (N:=some 38) #[true,true,true,true,true,true,true,true,true,true,true,true,true,true,true,false,false,false,false,false,false,false] rfl rfl (one_of HT_.out (by kernel_rfl)) (by decide) (fun K hK=>?_)
            refine goes_ Tryd.func42 (by kernel_rfl) rfl #[.agg #[.string t349,.slice Ao9 t350.length co9,.slice Ao10 t353.length co10]] (by rfl) rfl rfl (by (try simp only [List.map_toArray,List.map_cons,List.map_nil]);first|done|rfl|(simp only [List.length_drop,List.length_take];rfl)) ?_
            with_reducible refine (impl_ConfOk.calls k t349 _ _ t350 _ _ t353 _ _ ?side1 ?side2 ?side3 ?side4 ?side5 A21.out).mono ?_
            (case side1=>repeat (first|exact (Kd.V_reads' HO352.out).2.2|(with_reducible refine Kd.C_alloc ?_ _)|(with_reducible refine Kd.C_drewN ?_ _)|(with_reducible refine Kd.C_drew ?_)))
            (case side2=>exact (Kd.V_reads' HO352.out).2.1)
            (case side3=>repeat (first|exact (Kd.V_reads' HO355.out).2.2|(with_reducible refine Kd.C_alloc ?_ _)|(with_reducible refine Kd.C_drewN ?_ _)|(with_reducible refine Kd.C_drew ?_)))
            (case side4=>exact (Kd.V_reads' HO355.out).2.1)
            (case side5=>first|(with_reducible exact HG.out)|((with_reducible repeat (first|exact HG.out|apply GOK.drewN|apply GOK.drew));done)|exact GOK.below HG.out (by repeat (first|(with_reducible first|exact HB.out|apply below_alloc|apply pw_below_drewN|apply below_drew1|refine below_set ?_ GE357.out)|exact HB.out)))
            rintro e w34 ⟨rfl,hb⟩
            refine ⟨_,rfl,?_⟩
            have n0_:=Aside0.mk (Kd.V_below (by (with_reducible repeat (first|apply Kd.V_alloc|apply Kd.V_drewN|apply Kd.V_drew));exact HO352.out) hb)
            have n1_:=Aside0.mk (Kd.V_below (by (with_reducible repeat (first|apply Kd.V_alloc|apply Kd.V_drewN|apply Kd.V_drew));exact HO355.out) hb)
            have n2_:=Aside0.mk (blk_below (g:=gb357) (o:=.cells #[.string t349,.slice Ao9 t350.length co9,.slice Ao10 t353.length co10] 56 (0,0)) (by (with_reducible repeat (first|refine blk_drewN ?_ _|refine blk_drew ?_|refine blk_alloc ?_ _));exact BK357.out) hb)
            have n3_:=Aside0.mk (below_step (by repeat (first|(with_reducible first|exact HB.out|apply below_alloc|apply pw_below_drewN|apply below_drew1|refine below_set ?_ GE357.out)|exact HB.out)) hb)
            clear HO352
            clear HO355
            clear BK357
            clear HB
            have HO352:=n0_
            have HO355:=n1_
            have BK357:=n2_
            have HB:=n3_
            clear n0_ n1_ n2_ n3_
            (try clear hb)
            (try clear hb2)
            (try clear hk)
            (try clear hi)
            refine hK.out _ _ ⟨(blk_cell BK357.out 0).trans rfl,(blk_cell BK357.out 1).trans rfl,(blk_cell BK357.out 2).trans rfl⟩ (fun hHeld=>?_)
            clear hK K
            refine norm_ (a':=?_) ?_ ?_
            rotate_left
            · show Act.put _ (some 38) _=_
              simp only [Act.put,List.setIfInBounds_toArray,List.set_cons_zero,List.set_cons_succ,i64_w,i32_w]
              rfl
            refine pure_ (i:=15) (N:=some 39) (v:=?_) (a':=?_) #[true,true,true,true,true,true,true,true,true,true,true,true,true,true,true,true,false,false,false,false,false,false] rfl rfl (any_of HT_.out (by kernel_rfl)) (fun _ _ _ h=>h) (Or.inl ⟨by rfl,?_⟩) ?_ ?_
            rotate_left
            · intro w'
              go_simp
              with_reducible rfl
            rotate_left
            · simp only [Act.put,List.setIfInBounds_toArray,List.set_cons_zero,List.set_cons_succ,i64_w,i32_w]
              rfl
            refine pure_ (i:=16) (N:=some 40) (v:=?_) (a':=?_) #[true,true,true,true,true,true,true,true,true,true,true,true,true,true,true,true,true,false,false,false,false,false] rfl rfl (any_of HT_.out (by kernel_rfl)) (fun _ _ _ h=>h) (Or.inl ⟨by rfl,?_⟩) ?_ ?_
            rotate_left
            · intro w'
              go_simp
              with_reducible rfl
            rotate_left
            · simp only [Act.put,List.setIfInBounds_toArray,List.set_cons_zero,List.set_cons_succ,i64_w,i32_w]
              rfl
            refine pure_ (i:=17) (N:=some 41) (v:=?_) (a':=?_) #[true,true,true,true,true,true,true,true,true,true,true,true,true,true,true,true,true,true,false,false,false,false] rfl rfl (any_of HT_.out (by kernel_rfl)) (fun _ _ _ h=>h) (Or.inl ⟨by rfl,?_⟩) ?_ ?_
            rotate_left
            · intro w'
              go_simp
              with_reducible rfl
            rotate_left
            · simp only [Act.put,List.setIfInBounds_toArray,List.set_cons_zero,List.set_cons_succ,i64_w,i32_w]
              rfl
            refine pure_ (i:=18) (N:=some 42) (v:=undef) (a':=?_) #[true,true,true,true,true,true,true,true,true,true,true,true,true,true,true,true,true,true,true,false,false,false] rfl rfl (any_of HT_.out (by kernel_rfl)) (fun _ _ _ h=>h) (Or.inr ⟨by rfl,rfl⟩) ?_ ?_
            rotate_left
            · simp only [Act.put,List.setIfInBounds_toArray,List.set_cons_zero,List.set_cons_succ,i64_w,i32_w]
              rfl
            refine pure_ (i:=19) (N:=some 43) (v:=undef) (a':=?_) #[true,true,true,true,true,true,true,true,true,true,true,true,true,true,true,true,true,true,true,true,false,false] rfl rfl (any_of HT_.out (by kernel_rfl)) (fun _ _ _ h=>h) (Or.inr ⟨by rfl,rfl⟩) ?_ ?_
            rotate_left
            · simp only [Act.put,List.setIfInBounds_toArray,List.set_cons_zero,List.set_cons_succ,i64_w,i32_w]
              rfl
            refine pure_ (i:=20) (N:=some 44) (v:=undef) (a':=?_) #[true,true,true,true,true,true,true,true,true,true,true,true,true,true,true,true,true,true,true,true,true,false] rfl rfl (any_of HT_.out (by kernel_rfl)) (fun _ _ _ h=>h) (Or.inr ⟨by rfl,rfl⟩) ?_ ?_
            rotate_left
            · simp only [Act.put,List.setIfInBounds_toArray,List.set_cons_zero,List.set_cons_succ,i64_w,i32_w]
              rfl
            refine pure_ (i:=21) (N:=some 45) (v:=?_) (a':=?_) #[true,true,true,true,true,true,true,true,true,true,true,true,true,true,true,true,true,true,true,true,true,true] rfl rfl (any_of HT_.out (by kernel_rfl)) (fun _ _ _ h=>h) (Or.inl ⟨by rfl,?_⟩) ?_ ?_
            rotate_left
            · intro w'
              go_simp
              with_reducible rfl
            rotate_left
            · simp only [Act.put,List.setIfInBounds_toArray,List.set_cons_zero,List.set_cons_succ,i64_w,i32_w]
              rfl
            refine done_ (done_of HT_.out (by kernel_rfl)) ?_
            try go_wp2
            go_meet
            case rel=>exact ⟨_,(true),(by first|rfl|(simp;done)|(simp [*];done)),H',⟨by first|omega|exact Nat.le_refl _⟩,⟨by (with_reducible repeat (first|apply Kd.V_alloc|apply Kd.V_drewN|apply Kd.V_drew));exact Kd.V_mono HO352.out (fun _ hk=>hk.2)⟩,⟨by (with_reducible repeat (first|apply Kd.V_alloc|apply Kd.V_drewN|apply Kd.V_drew));exact Kd.V_mono HO355.out (fun _ hk=>hk.2)⟩,⟨by (with_reducible repeat (first|refine blk_drewN ?_ _|refine blk_drew ?_|refine blk_alloc ?_ _));exact BK357.out⟩,⟨by repeat (first|(with_reducible first|exact HB.out|apply below_alloc|apply pw_below_drewN|apply below_drew1|refine below_set ?_ GE357.out)|exact HB.out)⟩⟩
      · rw [if_neg c13] at H
        have c13b0:(t358.toList==t359.toList)=false:=beq_eq_false_iff_ne.mpr c13
        have c13b1:(t358.toList != t359.toList)=true:=bne_iff_ne.mpr c13
        (first|rw [c13b0]|(simp only [i64_w,i32_w];rw [c13b0])|skip)
        have H':=Aside0.mk H
        clear H
        try go_wp2
        have n0_:=Aside0.mk (Kd.V_drew HO352.out)
        have n1_:=Aside0.mk (Kd.V_drew HO355.out)
        have n2_:=Aside0.mk (blk_drew BK357.out)
        have n3_:=Aside0.mk (below_drew1 HB.out)
        clear HO352
        clear HO355
        clear BK357
        clear HB
        have HO352:=n0_
        have HO355:=n1_
        have BK357:=n2_
        have HB:=n3_
        clear n0_ n1_ n2_ n3_
        refine start_ (n:=22) (S:=fun w'=>w'.cell? ⟨gb357,0,none⟩=some (.string t349)∧w'.cell? ⟨gb357,1,none⟩=some (.slice Ao9 t350.length co9)∧w'.cell? ⟨gb357,2,none⟩=some (.slice Ao10 t353.length co10)) (ds:=[]) #[false,false,false,false,false,false,false,false,false,false,false,false,false,false,false,false,false,false,false,false,false,false] (by kernel_rfl) rfl rfl ⟨(blk_cell BK357.out 0).trans rfl,(blk_cell BK357.out 1).trans rfl,(blk_cell BK357.out 2).trans rfl⟩ (fun hHeld=>?_);refine with_tabW laws_FnWay.tab5 laws_FnWay.bits5 (fun HT_ HW_=>?_)
        generalize w11.drew=w35 at HO352 HO355 BK357 HB hHeld ⊢
        refine pure_ (i:=0) (N:=some 24) (v:=?_) (a':=?_) #[true,false,false,false,false,false,false,false,false,false,false,false,false,false,false,false,false,false,false,false,false,false] rfl rfl (any_of HT_.out (by kernel_rfl)) (fun _ _ _ h=>h) (Or.inl ⟨by rfl,?_⟩) ?_ ?_
        rotate_left
        · intro w'
          go_simp
          with_reducible rfl
        rotate_left
        · simp only [Act.put,List.setIfInBounds_toArray,List.set_cons_zero,List.set_cons_succ,i64_w,i32_w]
          rfl
        refine pure_ (i:=2) (N:=some 26) (v:=?_) (a':=?_) #[true,false,true,false,false,false,false,false,false,false,false,false,false,false,false,false,false,false,false,false,false,false] rfl rfl (any_of HT_.out (by kernel_rfl)) (fun _ _ _ h=>h) (Or.inl ⟨by rfl,?_⟩) ?_ ?_
        rotate_left
        · intro w'
          go_simp
          with_reducible rfl
        rotate_left
        · simp only [Act.put,List.setIfInBounds_toArray,List.set_cons_zero,List.set_cons_succ,i64_w,i32_w]
          rfl
        refine take_ (i:=1) (N:=some 25) (v:=?_) (a':=?_) #[true,true,true,false,false,false,false,false,false,false,false,false,false,false,false,false,false,false,false,false,false,false] rfl rfl (take_ofW HT_.out HW_.out (by kernel_rfl)) (fun _ _ _ h=>h) (Or.inl ⟨by rfl,?_⟩) hHeld ?_ ?_
        rotate_left
        · rintro w' ⟨s0,s1,s2⟩
          go_simp
          with_reducible rfl
        rotate_left
        · simp only [Act.put,List.setIfInBounds_toArray,List.set_cons_zero,List.set_cons_succ,i64_w,i32_w]
          rfl
        refine one_ (i:=3) (N:=some 27) #[true,true,true,true,false,false,false,false,false,false,false,false,false,false,false,false,false,false,false,false,false,false] rfl rfl (one_of HT_.out (by kernel_rfl)) (by decide) (fun K hK=>?_)
        refine goes_ Tryd.func52 (by kernel_rfl) rfl #[.agg #[.string t349,.slice Ao9 t350.length co9,.slice Ao10 t353.length co10],.string t356] (by rfl) rfl rfl (by (try simp only [List.map_toArray,List.map_cons,List.map_nil]);first|done|rfl|(simp only [List.length_drop,List.length_take];rfl)) ?_
        with_reducible refine (spec_WayOf.calls k t349 _ _ t350 _ _ t353 t356 t359 _ ?side1 ?side2 ?side3 ?side4 A12.out).mono ?_
        (case side1=>repeat (first|exact (Kd.V_reads' HO352.out).2.2|(with_reducible refine Kd.C_alloc ?_ _)|(with_reducible refine Kd.C_drewN ?_ _)|(with_reducible refine Kd.C_drew ?_)))
        (case side2=>exact (Kd.V_reads' HO352.out).2.1)
        (case side3=>repeat (first|exact (Kd.V_reads' HO355.out).2.2|(with_reducible refine Kd.C_alloc ?_ _)|(with_reducible refine Kd.C_drewN ?_ _)|(with_reducible refine Kd.C_drew ?_)))
        (case side4=>exact (Kd.V_reads' HO355.out).2.1)
        rintro e w36 ⟨rfl,hb⟩
        refine ⟨_,rfl,?_⟩
        have n0_:=Aside0.mk (Kd.V_below (by (with_reducible repeat (first|apply Kd.V_alloc|apply Kd.V_drewN|apply Kd.V_drew));exact HO352.out) hb)
        have n1_:=Aside0.mk (Kd.V_below (by (with_reducible repeat (first|apply Kd.V_alloc|apply Kd.V_drewN|apply Kd.V_drew));exact HO355.out) hb)
        have n2_:=Aside0.mk (blk_below (g:=gb357) (o:=.cells #[.string t349,.slice Ao9 t350.length co9,.slice Ao10 t353.length co10] 56 (0,0)) (by (with_reducible repeat (first|refine blk_drewN ?_ _|refine blk_drew ?_|refine blk_alloc ?_ _));exact BK357.out) hb)
        have n3_:=Aside0.mk (below_step (by repeat (first|(with_reducible first|exact HB.out|apply below_alloc|apply pw_below_drewN|apply below_drew1|refine below_set ?_ GE357.out)|exact HB.out)) hb)
        clear HO352
        clear HO355
        clear BK357
        clear HB
        have HO352:=n0_
        have HO355:=n1_
        have BK357:=n2_
        have HB:=n3_
        clear n0_ n1_ n2_ n3_
        (try clear hb)
        (try clear hb2)
        (try clear hk)
        (try clear hi)
        refine hK.out _ _ ⟨(blk_cell BK357.out 0).trans rfl,(blk_cell BK357.out 1).trans rfl,(blk_cell BK357.out 2).trans rfl⟩ (fun hHeld=>?_)
        clear hK K
        refine norm_ (a':=?_) ?_ ?_
        rotate_left
        · show Act.put _ (some 27) _=_
          simp only [Act.put,List.setIfInBounds_toArray,List.set_cons_zero,List.set_cons_succ,i64_w,i32_w]
          rfl
        refine pure_ (i:=4) (N:=some 28) (v:=?_) (a':=?_) #[true,true,true,true,true,false,false,false,false,false,false,false,false,false,false,false,false,false,false,false,false,false] rfl rfl (any_of HT_.out (by kernel_rfl)) (fun _ _ _ h=>h) (Or.inl ⟨by rfl,?_⟩) ?_ ?_
        rotate_left
        · intro w'
          go_simp
          with_reducible rfl
        rotate_left
        · simp only [Act.put,List.setIfInBounds_toArray,List.set_cons_zero,List.set_cons_succ,i64_w,i32_w]
          rfl
        refine pure_ (i:=5) (N:=some 29) (v:=?_) (a':=?_) #[true,true,true,true,true,true,false,false,false,false,false,false,false,false,false,false,false,false,false,false,false,false] rfl rfl (any_of HT_.out (by kernel_rfl)) (fun _ _ _ h=>h) (Or.inl ⟨by rfl,?_⟩) ?_ ?_
        rotate_left
        · intro w'
          go_simp
          with_reducible rfl
        rotate_left
        · simp only [Act.put,List.setIfInBounds_toArray,List.set_cons_zero,List.set_cons_succ,i64_w,i32_w]
          rfl
        refine pure_ (i:=6) (N:=some 30) (v:=undef) (a':=?_) #[true,true,true,true,true,true,true,false,false,false,false,false,false,false,false,false,false,false,false,false,false,false] rfl rfl (any_of HT_.out (by kernel_rfl)) (fun _ _ _ h=>h) (Or.inr ⟨by rfl,rfl⟩) ?_ ?_
        rotate_left
        · simp only [Act.put,List.setIfInBounds_toArray,List.set_cons_zero,List.set_cons_succ,i64_w,i32_w]
          rfl
        refine pure_ (i:=7) (N:=some 31) (v:=undef) (a':=?_) #[true,true,true,true,true,true,true,true,false,false,false,false,false,false,false,false,false,false,false,false,false,false] rfl rfl (any_of HT_.out (by kernel_rfl)) (fun _ _ _ h=>h) (Or.inr ⟨by rfl,rfl⟩) ?_ ?_
        rotate_left
        · simp only [Act.put,List.setIfInBounds_toArray,List.set_cons_zero,List.set_cons_succ,i64_w,i32_w]
          rfl
        refine pure_ (i:=8) (N:=some 32) (v:=undef) (a':=?_) #[true,true,true,true,true,true,true,true,true,false,false,false,false,false,false,false,false,false,false,false,false,false] rfl rfl (any_of HT_.out (by kernel_rfl)) (fun _ _ _ h=>h) (Or.inr ⟨by rfl,rfl⟩) ?_ ?_
        rotate_left
        · simp only [Act.put,List.setIfInBounds_toArray,List.set_cons_zero,List.set_cons_succ,i64_w,i32_w]
          rfl
        refine pure_ (i:=9) (N:=some 33) (v:=undef) (a':=?_) #[true,true,true,true,true,true,true,true,true,true,false,false,false,false,false,false,false,false,false,false,false,false] rfl rfl (any_of HT_.out (by kernel_rfl)) (fun _ _ _ h=>h) (Or.inr ⟨by rfl,rfl⟩) ?_ ?_
        rotate_left
        · simp only [Act.put,List.setIfInBounds_toArray,List.set_cons_zero,List.set_cons_succ,i64_w,i32_w]
          rfl
        refine pure_ (i:=10) (N:=some 34) (v:=undef) (a':=?_) #[true,true,true,true,true,true,true,true,true,true,true,false,false,false,false,false,false,false,false,false,false,false] rfl rfl (any_of HT_.out (by kernel_rfl)) (fun _ _ _ h=>h) (Or.inr ⟨by rfl,rfl⟩) ?_ ?_
        rotate_left
        · simp only [Act.put,List.setIfInBounds_toArray,List.set_cons_zero,List.set_cons_succ,i64_w,i32_w]
          rfl
        refine pure_ (i:=11) (N:=some 35) (v:=?_) (a':=?_) #[true,true,true,true,true,true,true,true,true,true,true,true,false,false,false,false,false,false,false,false,false,false] rfl rfl (any_of HT_.out (by kernel_rfl)) (fun _ _ _ h=>h) (Or.inl ⟨by rfl,?_⟩) ?_ ?_
        rotate_left
        · intro w'
          go_simp
          with_reducible rfl
        rotate_left
        · simp only [Act.put,List.setIfInBounds_toArray,List.set_cons_zero,List.set_cons_succ,i64_w,i32_w]
          rfl
        refine pure_ (i:=12) (N:=some 36) (v:=?_) (a':=?_) #[true,true,true,true,true,true,true,true,true,true,true,true,true,false,false,false,false,false,false,false,false,false] rfl rfl (any_of HT_.out (by kernel_rfl)) (fun _ _ _ h=>h) (Or.inl ⟨by rfl,?_⟩) ?_ ?_
        rotate_left
        · intro w'
          go_simp
          with_reducible rfl
        rotate_left
        · simp only [Act.put,List.setIfInBounds_toArray,List.set_cons_zero,List.set_cons_succ,i64_w,i32_w]
          rfl
        refine pure_ (i:=13) (N:=some 37) (v:=undef) (a':=?_) #[true,true,true,true,true,true,true,true,true,true,true,true,true,true,false,false,false,false,false,false,false,false] rfl rfl (any_of HT_.out (by kernel_rfl)) (fun _ _ _ h=>h) (Or.inr ⟨by rfl,rfl⟩) ?_ ?_
        rotate_left
        · simp only [Act.put,List.setIfInBounds_toArray,List.set_cons_zero,List.set_cons_succ,i64_w,i32_w]
          rfl
        refine pure_ (i:=14) (N:=some 38) (v:=undef) (a':=?_) #[true,true,true,true,true,true,true,true,true,true,true,true,true,true,true,false,false,false,false,false,false,false] rfl rfl (any_of HT_.out (by kernel_rfl)) (fun _ _ _ h=>h) (Or.inr ⟨by rfl,rfl⟩) ?_ ?_
        rotate_left
        · simp only [Act.put,List.setIfInBounds_toArray,List.set_cons_zero,List.set_cons_succ,i64_w,i32_w]
          rfl
        refine pure_ (i:=15) (N:=some 39) (v:=undef) (a':=?_) #[true,true,true,true,true,true,true,true,true,true,true,true,true,true,true,true,false,false,false,false,false,false] rfl rfl (any_of HT_.out (by kernel_rfl)) (fun _ _ _ h=>h) (Or.inr ⟨by rfl,rfl⟩) ?_ ?_
        rotate_left
        · simp only [Act.put,List.setIfInBounds_toArray,List.set_cons_zero,List.set_cons_succ,i64_w,i32_w]
          rfl
        refine pure_ (i:=16) (N:=some 40) (v:=?_) (a':=?_) #[true,true,true,true,true,true,true,true,true,true,true,true,true,true,true,true,true,false,false,false,false,false] rfl rfl (any_of HT_.out (by kernel_rfl)) (fun _ _ _ h=>h) (Or.inl ⟨by rfl,?_⟩) ?_ ?_
        rotate_left
        · intro w'
          go_simp
          with_reducible rfl
        rotate_left
        · simp only [Act.put,List.setIfInBounds_toArray,List.set_cons_zero,List.set_cons_succ,i64_w,i32_w]
          rfl
        refine pure_ (i:=17) (N:=some 41) (v:=?_) (a':=?_) #[true,true,true,true,true,true,true,true,true,true,true,true,true,true,true,true,true,true,false,false,false,false] rfl rfl (any_of HT_.out (by kernel_rfl)) (fun _ _ _ h=>h) (Or.inl ⟨by rfl,?_⟩) ?_ ?_
        rotate_left
        · intro w'
          go_simp
          with_reducible rfl
        rotate_left
        · simp only [Act.put,List.setIfInBounds_toArray,List.set_cons_zero,List.set_cons_succ,i64_w,i32_w]
          rfl
        refine pure_ (i:=18) (N:=some 42) (v:=undef) (a':=?_) #[true,true,true,true,true,true,true,true,true,true,true,true,true,true,true,true,true,true,true,false,false,false] rfl rfl (any_of HT_.out (by kernel_rfl)) (fun _ _ _ h=>h) (Or.inr ⟨by rfl,rfl⟩) ?_ ?_
        rotate_left
        · simp only [Act.put,List.setIfInBounds_toArray,List.set_cons_zero,List.set_cons_succ,i64_w,i32_w]
          rfl
        refine pure_ (i:=19) (N:=some 43) (v:=undef) (a':=?_) #[true,true,true,true,true,true,true,true,true,true,true,true,true,true,true,true,true,true,true,true,false,false] rfl rfl (any_of HT_.out (by kernel_rfl)) (fun _ _ _ h=>h) (Or.inr ⟨by rfl,rfl⟩) ?_ ?_
        rotate_left
        · simp only [Act.put,List.setIfInBounds_toArray,List.set_cons_zero,List.set_cons_succ,i64_w,i32_w]
          rfl
        refine pure_ (i:=20) (N:=some 44) (v:=undef) (a':=?_) #[true,true,true,true,true,true,true,true,true,true,true,true,true,true,true,true,true,true,true,true,true,false] rfl rfl (any_of HT_.out (by kernel_rfl)) (fun _ _ _ h=>h) (Or.inr ⟨by rfl,rfl⟩) ?_ ?_
        rotate_left
        · simp only [Act.put,List.setIfInBounds_toArray,List.set_cons_zero,List.set_cons_succ,i64_w,i32_w]
          rfl
        refine pure_ (i:=21) (N:=some 45) (v:=?_) (a':=?_) #[true,true,true,true,true,true,true,true,true,true,true,true,true,true,true,true,true,true,true,true,true,true] rfl rfl (any_of HT_.out (by kernel_rfl)) (fun _ _ _ h=>h) (Or.inl ⟨by rfl,?_⟩) ?_ ?_
        rotate_left
        · intro w'
          go_simp
          with_reducible rfl
        rotate_left
        · simp only [Act.put,List.setIfInBounds_toArray,List.set_cons_zero,List.set_cons_succ,i64_w,i32_w]
          rfl
        refine done_ (done_of HT_.out (by kernel_rfl)) ?_
        try go_wp2
        go_meet
        case rel=>exact ⟨_,(true),(by first|rfl|(simp;done)|(simp [*];done)),H',⟨by first|omega|exact Nat.le_refl _⟩,⟨by (with_reducible repeat (first|apply Kd.V_alloc|apply Kd.V_drewN|apply Kd.V_drew));exact Kd.V_mono HO352.out (fun _ hk=>hk.2)⟩,⟨by (with_reducible repeat (first|apply Kd.V_alloc|apply Kd.V_drewN|apply Kd.V_drew));exact Kd.V_mono HO355.out (fun _ hk=>hk.2)⟩,⟨by (with_reducible repeat (first|refine blk_drewN ?_ _|refine blk_drew ?_|refine blk_alloc ?_ _));exact BK357.out⟩,⟨by repeat (first|(with_reducible first|exact HB.out|apply below_alloc|apply pw_below_drewN|apply below_drew1|refine below_set ?_ GE357.out)|exact HB.out)⟩⟩
    case rest =>
      clear HC5
      try clear c1
      try clear c2
      try clear p2
      try clear c4
      try clear c5
      try clear c13
      try clear c13b0
      try clear c13b1
      try clear c18
      try clear c22
      obtain ⟨kq,x45_4,rfl,HA,HJ4,HO_358001,HO_358002,BK357,HB⟩:=hcut
      cases kq with
      | zero=>exact absurd HA.out (by simp [laws_FnWay.j0])
      | succ kj4 =>
        have H:=HA.out
        clear HA
        simp only [laws_FnWay.j0] at H
        by_cases c37:x45_4=true
        · subst c37
          have H1:((spec_WayOf.f kj4 t349 t350 t353 t356).bind fun t364=>(if t358.toList=t364.toList then ((impl_ConfOk.f kj4 t349 t350 t353).bind fun t365=>((spec_ConfOk.f kj4 t349 t350 t353).bind fun t366=>(some (t365==t366)))) else (some false)))=some r:=by rw [if_pos rfl] at H;exact H
          clear H
          have H:=H1
          clear H1
          replace H:=Option.bind_eq_some_iff.mp H
          obtain ⟨t364,A380,H⟩:=H
          replace H:(if t358.toList=t364.toList then ((impl_ConfOk.f kj4 t349 t350 t353).bind fun t365=>((spec_ConfOk.f kj4 t349 t350 t353).bind fun t366=>(some (t365==t366)))) else (some false))=some r:=H
          have A38:=Aside0.mk A380
          clear A380
          by_cases c39:t358.toList=t364.toList
          · rw [if_pos c39] at H
            have c39b0:(t358.toList==t364.toList)=true:=beq_iff_eq.mpr c39
            have c39b1:(t358.toList != t364.toList)=false:=bne_eq_false_iff_eq.mpr c39
            clear c39
            replace H:=Option.bind_eq_some_iff.mp H
            obtain ⟨t365,A400,H⟩:=H
            replace H:((spec_ConfOk.f kj4 t349 t350 t353).bind fun t366=>(some (t365==t366)))=some r:=H
            have A40:=Aside0.mk A400
            clear A400
            replace H:=Option.bind_eq_some_iff.mp H
            obtain ⟨t366,A410,H⟩:=H
            replace H:(some (t365==t366))=some r:=H
            have A41:=Aside0.mk A410
            clear A410
            obtain rfl:=Option.some.inj H
            try go_wp2
            have n0_:=Aside0.mk (Kd.V_drew HO_358001.out)
            have n1_:=Aside0.mk (Kd.V_drew HO_358002.out)
            have n2_:=Aside0.mk (blk_drew BK357.out)
            have n3_:=Aside0.mk (below_drew1 HB.out)
            clear HO_358001
            clear HO_358002
            clear BK357
            clear HB
            have HO_358001:=n0_
            have HO_358002:=n1_
            have BK357:=n2_
            have HB:=n3_
            clear n0_ n1_ n2_ n3_
            refine start_ (n:=13) (S:=fun w'=>w'.cell? ⟨gb357,0,none⟩=some (.string t349)∧w'.cell? ⟨gb357,1,none⟩=some (.slice Ao9 t350.length co9)∧w'.cell? ⟨gb357,2,none⟩=some (.slice Ao10 t353.length co10)) (ds:=[]) #[false,false,false,false,false,false,false,false,false,false,false,false,false] (by kernel_rfl) rfl rfl ⟨(blk_cell BK357.out 0).trans rfl,(blk_cell BK357.out 1).trans rfl,(blk_cell BK357.out 2).trans rfl⟩ (fun hHeld=>?_);refine with_tabW laws_FnWay.tab6 laws_FnWay.bits6 (fun HT_ HW_=>?_)
            generalize wc.drew=w42 at HO_358001 HO_358002 BK357 HB hHeld ⊢
            refine pure_ (i:=0) (N:=some 46) (v:=?_) (a':=?_) #[true,false,false,false,false,false,false,false,false,false,false,false,false] rfl rfl (any_of HT_.out (by kernel_rfl)) (fun _ _ _ h=>h) (Or.inl ⟨by rfl,?_⟩) ?_ ?_
            rotate_left
            · intro w'
              go_simp
              with_reducible rfl
            rotate_left
            · simp only [Act.put,List.setIfInBounds_toArray,List.set_cons_zero,List.set_cons_succ,i64_w,i32_w]
              rfl
            refine pure_ (i:=2) (N:=some 48) (v:=?_) (a':=?_) #[true,false,true,false,false,false,false,false,false,false,false,false,false] rfl rfl (any_of HT_.out (by kernel_rfl)) (fun _ _ _ h=>h) (Or.inl ⟨by rfl,?_⟩) ?_ ?_
            rotate_left
            · intro w'
              go_simp
              with_reducible rfl
            rotate_left
            · simp only [Act.put,List.setIfInBounds_toArray,List.set_cons_zero,List.set_cons_succ,i64_w,i32_w]
              rfl
            refine take_ (i:=1) (N:=some 47) (v:=?_) (a':=?_) #[true,true,true,false,false,false,false,false,false,false,false,false,false] rfl rfl (take_ofW HT_.out HW_.out (by kernel_rfl)) (fun _ _ _ h=>h) (Or.inl ⟨by rfl,?_⟩) hHeld ?_ ?_
            rotate_left
            · rintro w' ⟨s0,s1,s2⟩
              go_simp
              with_reducible rfl
            rotate_left
            · simp only [Act.put,List.setIfInBounds_toArray,List.set_cons_zero,List.set_cons_succ,i64_w,i32_w]
              rfl
            refine one_ (i:=3) (N:=some 49) #[true,true,true,true,false,false,false,false,false,false,false,false,false] rfl rfl (one_of HT_.out (by kernel_rfl)) (by decide) (fun K hK=>?_)
            refine goes_ Tryd.func52 (by kernel_rfl) rfl #[.agg #[.string t349,.slice Ao9 t350.length co9,.slice Ao10 t353.length co10],.string t356] (by rfl) rfl rfl (by (try simp only [List.map_toArray,List.map_cons,List.map_nil]);first|done|rfl|(simp only [List.length_drop,List.length_take];rfl)) ?_
            with_reducible refine (spec_WayOf.calls kj4 t349 _ _ t350 _ _ t353 t356 t364 _ ?side1 ?side2 ?side3 ?side4 A38.out).mono ?_
            (case side1=>repeat (first|exact (Kd.V_reads' HO_358001.out).2.2|(with_reducible refine Kd.C_alloc ?_ _)|(with_reducible refine Kd.C_drewN ?_ _)|(with_reducible refine Kd.C_drew ?_)))
            (case side2=>exact (Kd.V_reads' HO_358001.out).2.1)
            (case side3=>repeat (first|exact (Kd.V_reads' HO_358002.out).2.2|(with_reducible refine Kd.C_alloc ?_ _)|(with_reducible refine Kd.C_drewN ?_ _)|(with_reducible refine Kd.C_drew ?_)))
            (case side4=>exact (Kd.V_reads' HO_358002.out).2.1)
            rintro e w43 ⟨rfl,hb⟩
            refine ⟨_,rfl,?_⟩
            have n0_:=Aside0.mk (Kd.V_below (by (with_reducible repeat (first|apply Kd.V_alloc|apply Kd.V_drewN|apply Kd.V_drew));exact HO_358001.out) hb)
            have n1_:=Aside0.mk (Kd.V_below (by (with_reducible repeat (first|apply Kd.V_alloc|apply Kd.V_drewN|apply Kd.V_drew));exact HO_358002.out) hb)
            have n2_:=Aside0.mk (blk_below (g:=gb357) (o:=.cells #[.string t349,.slice Ao9 t350.length co9,.slice Ao10 t353.length co10] 56 (0,0)) (by (with_reducible repeat (first|refine blk_drewN ?_ _|refine blk_drew ?_|refine blk_alloc ?_ _));exact BK357.out) hb)
            have n3_:=Aside0.mk (below_step (by repeat (first|(with_reducible first|exact HB.out|apply below_alloc|apply pw_below_drewN|apply below_drew1|refine below_set ?_ GE357.out)|exact HB.out)) hb)
            clear HO_358001
            clear HO_358002
            clear BK357
            clear HB
            have HO_358001:=n0_
            have HO_358002:=n1_
            have BK357:=n2_
            have HB:=n3_
            clear n0_ n1_ n2_ n3_
            (try clear hb)
            (try clear hb2)
            (try clear hk)
            (try clear hi)
            refine hK.out _ _ ⟨(blk_cell BK357.out 0).trans rfl,(blk_cell BK357.out 1).trans rfl,(blk_cell BK357.out 2).trans rfl⟩ (fun hHeld=>?_)
            clear hK K
            refine norm_ (a':=?_) ?_ ?_
            rotate_left
            · show Act.put _ (some 49) _=_
              simp only [Act.put,List.setIfInBounds_toArray,List.set_cons_zero,List.set_cons_succ,i64_w,i32_w]
              rfl
            refine pure_ (i:=4) (N:=some 50) (v:=?_) (a':=?_) #[true,true,true,true,true,false,false,false,false,false,false,false,false] rfl rfl (any_of HT_.out (by kernel_rfl)) (fun _ _ _ h=>h) (Or.inl ⟨by rfl,?_⟩) ?_ ?_
            rotate_left
            · intro w'
              go_simp
              with_reducible rfl
            rotate_left
            · simp only [Act.put,List.setIfInBounds_toArray,List.set_cons_zero,List.set_cons_succ,i64_w,i32_w]
              rfl
            refine pure_ (i:=5) (N:=some 51) (v:=?_) (a':=?_) #[true,true,true,true,true,true,false,false,false,false,false,false,false] rfl rfl (any_of HT_.out (by kernel_rfl)) (fun _ _ _ h=>h) (Or.inl ⟨by rfl,?_⟩) ?_ ?_
            rotate_left
            · intro w'
              go_simp
              with_reducible rfl
            rotate_left
            · simp only [Act.put,List.setIfInBounds_toArray,List.set_cons_zero,List.set_cons_succ,i64_w,i32_w]
              rfl
            refine take_ (i:=6) (N:=some 52) (v:=?_) (a':=?_) #[true,true,true,true,true,true,true,false,false,false,false,false,false] rfl rfl (take_ofW HT_.out HW_.out (by kernel_rfl)) (fun _ _ _ h=>h) (Or.inl ⟨by rfl,?_⟩) hHeld ?_ ?_
            rotate_left
            · rintro w' ⟨s0,s1,s2⟩
              go_simp
              with_reducible rfl
            rotate_left
            · simp only [Act.put,List.setIfInBounds_toArray,List.set_cons_zero,List.set_cons_succ,i64_w,i32_w]
              rfl
            refine take_ (i:=8) (N:=some 54) (v:=?_) (a':=?_) #[true,true,true,true,true,true,true,false,true,false,false,false,false] rfl rfl (take_ofW HT_.out HW_.out (by kernel_rfl)) (fun _ _ _ h=>h) (Or.inl ⟨by rfl,?_⟩) hHeld ?_ ?_
            rotate_left
            · rintro w' ⟨s0,s1,s2⟩
              go_simp
              with_reducible rfl
            rotate_left
            · simp only [Act.put,List.setIfInBounds_toArray,List.set_cons_zero,List.set_cons_succ,i64_w,i32_w]
              rfl
            refine one_ (i:=7) (N:=some 53) #[true,true,true,true,true,true,true,true,true,false,false,false,false] rfl rfl (one_of HT_.out (by kernel_rfl)) (by decide) (fun K hK=>?_)
            refine goes_ Tryd.func42 (by kernel_rfl) rfl #[.agg #[.string t349,.slice Ao9 t350.length co9,.slice Ao10 t353.length co10]] (by rfl) rfl rfl (by (try simp only [List.map_toArray,List.map_cons,List.map_nil]);first|done|rfl|(simp only [List.length_drop,List.length_take];rfl)) ?_
            with_reducible refine (impl_ConfOk.calls kj4 t349 _ _ t350 _ _ t353 t365 _ ?side1 ?side2 ?side3 ?side4 ?side5 A40.out).mono ?_
            (case side1=>repeat (first|exact (Kd.V_reads' HO_358001.out).2.2|(with_reducible refine Kd.C_alloc ?_ _)|(with_reducible refine Kd.C_drewN ?_ _)|(with_reducible refine Kd.C_drew ?_)))
            (case side2=>exact (Kd.V_reads' HO_358001.out).2.1)
            (case side3=>repeat (first|exact (Kd.V_reads' HO_358002.out).2.2|(with_reducible refine Kd.C_alloc ?_ _)|(with_reducible refine Kd.C_drewN ?_ _)|(with_reducible refine Kd.C_drew ?_)))
            (case side4=>exact (Kd.V_reads' HO_358002.out).2.1)
            (case side5=>first|(with_reducible exact HG.out)|((with_reducible repeat (first|exact HG.out|apply GOK.drewN|apply GOK.drew));done)|exact GOK.below HG.out (by repeat (first|(with_reducible first|exact HB.out|apply below_alloc|apply pw_below_drewN|apply below_drew1|refine below_set ?_ GE357.out)|exact HB.out)))
            rintro e w44 ⟨rfl,hb⟩
            refine ⟨_,rfl,?_⟩
            have n0_:=Aside0.mk (Kd.V_below (by (with_reducible repeat (first|apply Kd.V_alloc|apply Kd.V_drewN|apply Kd.V_drew));exact HO_358001.out) hb)
            have n1_:=Aside0.mk (Kd.V_below (by (with_reducible repeat (first|apply Kd.V_alloc|apply Kd.V_drewN|apply Kd.V_drew));exact HO_358002.out) hb)
            have n2_:=Aside0.mk (blk_below (g:=gb357) (o:=.cells #[.string t349,.slice Ao9 t350.length co9,.slice Ao10 t353.length co10] 56 (0,0)) (by (with_reducible repeat (first|refine blk_drewN ?_ _|refine blk_drew ?_|refine blk_alloc ?_ _));exact BK357.out) hb)
            have n3_:=Aside0.mk (below_step (by repeat (first|(with_reducible first|exact HB.out|apply below_alloc|apply pw_below_drewN|apply below_drew1|refine below_set ?_ GE357.out)|exact HB.out)) hb)
            clear HO_358001
            clear HO_358002
            clear BK357
            clear HB
            have HO_358001:=n0_
            have HO_358002:=n1_
            have BK357:=n2_
            have HB:=n3_
            clear n0_ n1_ n2_ n3_
            (try clear hb)
            (try clear hb2)
            (try clear hk)
            (try clear hi)
            refine hK.out _ _ ⟨(blk_cell BK357.out 0).trans rfl,(blk_cell BK357.out 1).trans rfl,(blk_cell BK357.out 2).trans rfl⟩ (fun hHeld=>?_)
            clear hK K
            refine norm_ (a':=?_) ?_ ?_
            rotate_left
            · show Act.put _ (some 53) _=_
              simp only [Act.put,List.setIfInBounds_toArray,List.set_cons_zero,List.set_cons_succ,i64_w,i32_w]
              rfl
            refine one_ (i:=9) (N:=some 55) #[true,true,true,true,true,true,true,true,true,true,false,false,false] rfl rfl (one_of HT_.out (by kernel_rfl)) (by decide) (fun K hK=>?_)
            refine goes_ Tryd.func40 (by kernel_rfl) rfl #[.agg #[.string t349,.slice Ao9 t350.length co9,.slice Ao10 t353.length co10]] (by rfl) rfl rfl (by (try simp only [List.map_toArray,List.map_cons,List.map_nil]);first|done|rfl|(simp only [List.length_drop,List.length_take];rfl)) ?_
            with_reducible refine (spec_ConfOk.calls kj4 t349 _ _ t350 _ _ t353 t366 _ ?side1 ?side2 ?side3 ?side4 A41.out).mono ?_
            (case side1=>repeat (first|exact (Kd.V_reads' HO_358001.out).2.2|(with_reducible refine Kd.C_alloc ?_ _)|(with_reducible refine Kd.C_drewN ?_ _)|(with_reducible refine Kd.C_drew ?_)))
            (case side2=>exact (Kd.V_reads' HO_358001.out).2.1)
            (case side3=>repeat (first|exact (Kd.V_reads' HO_358002.out).2.2|(with_reducible refine Kd.C_alloc ?_ _)|(with_reducible refine Kd.C_drewN ?_ _)|(with_reducible refine Kd.C_drew ?_)))
            (case side4=>exact (Kd.V_reads' HO_358002.out).2.1)
            rintro e w45 ⟨rfl,hb⟩
            refine ⟨_,rfl,?_⟩
            have n0_:=Aside0.mk (Kd.V_below (by (with_reducible repeat (first|apply Kd.V_alloc|apply Kd.V_drewN|apply Kd.V_drew));exact HO_358001.out) hb)
            have n1_:=Aside0.mk (Kd.V_below (by (with_reducible repeat (first|apply Kd.V_alloc|apply Kd.V_drewN|apply Kd.V_drew));exact HO_358002.out) hb)
            have n2_:=Aside0.mk (blk_below (g:=gb357) (o:=.cells #[.string t349,.slice Ao9 t350.length co9,.slice Ao10 t353.length co10] 56 (0,0)) (by (with_reducible repeat (first|refine blk_drewN ?_ _|refine blk_drew ?_|refine blk_alloc ?_ _));exact BK357.out) hb)
            have n3_:=Aside0.mk (below_step (by repeat (first|(with_reducible first|exact HB.out|apply below_alloc|apply pw_below_drewN|apply below_drew1|refine below_set ?_ GE357.out)|exact HB.out)) hb)
            clear HO_358001
            clear HO_358002
            clear BK357
            clear HB
            have HO_358001:=n0_
            have HO_358002:=n1_
            have BK357:=n2_
            have HB:=n3_
            clear n0_ n1_ n2_ n3_
            (try clear hb)
            (try clear hb2)
            (try clear hk)
            (try clear hi)
            refine hK.out _ _ ⟨(blk_cell BK357.out 0).trans rfl,(blk_cell BK357.out 1).trans rfl,(blk_cell BK357.out 2).trans rfl⟩ (fun hHeld=>?_)
            clear hK K
            refine norm_ (a':=?_) ?_ ?_
            rotate_left
            · show Act.put _ (some 55) _=_
              simp only [Act.put,List.setIfInBounds_toArray,List.set_cons_zero,List.set_cons_succ,i64_w,i32_w]
              rfl
            refine pure_ (i:=10) (N:=some 56) (v:=?_) (a':=?_) #[true,true,true,true,true,true,true,true,true,true,true,false,false] rfl rfl (any_of HT_.out (by kernel_rfl)) (fun _ _ _ h=>h) (Or.inl ⟨by rfl,?_⟩) ?_ ?_
            rotate_left
            · intro w'
              go_simp
              with_reducible rfl
            rotate_left
            · simp only [Act.put,List.setIfInBounds_toArray,List.set_cons_zero,List.set_cons_succ,i64_w,i32_w]
              rfl
            refine pure_ (i:=11) (N:=some 57) (v:=?_) (a':=?_) #[true,true,true,true,true,true,true,true,true,true,true,true,false] rfl rfl (any_of HT_.out (by kernel_rfl)) (fun _ _ _ h=>h) (Or.inl ⟨by rfl,?_⟩) ?_ ?_
            rotate_left
            · intro w'
              go_simp
              with_reducible rfl
            rotate_left
            · simp only [Act.put,List.setIfInBounds_toArray,List.set_cons_zero,List.set_cons_succ,i64_w,i32_w]
              rfl
            refine pure_ (i:=12) (N:=some 2) (v:=?_) (a':=?_) #[true,true,true,true,true,true,true,true,true,true,true,true,true] rfl rfl (any_of HT_.out (by kernel_rfl)) (fun _ _ _ h=>h) (Or.inl ⟨by rfl,?_⟩) ?_ ?_
            rotate_left
            · intro w'
              go_simp
              with_reducible rfl
            rotate_left
            · simp only [Act.put,List.setIfInBounds_toArray,List.set_cons_zero,List.set_cons_succ,i64_w,i32_w]
              rfl
            refine done_ (done_of HT_.out (by kernel_rfl)) ?_
            try go_wp2
            go_ret
            exact ⟨by first|rfl|(simp [errW_none,errW_some]<;>rfl)|(simp [*,errW_none,errW_some]<;>rfl)|(simp [*,errW_none,errW_some];cases t358.toList<;>rfl),by repeat (first|(with_reducible first|exact HB.out|apply below_alloc|apply pw_below_drewN|apply below_drew1|refine below_set ?_ GE357.out)|exact HB.out)⟩
          · rw [if_neg c39] at H
            have c39b0:(t358.toList==t364.toList)=false:=beq_eq_false_iff_ne.mpr c39
            have c39b1:(t358.toList != t364.toList)=true:=bne_iff_ne.mpr c39
            obtain rfl:=Option.some.inj H
            try go_wp2
            have n0_:=Aside0.mk (Kd.V_drew HO_358001.out)
            have n1_:=Aside0.mk (Kd.V_drew HO_358002.out)
            have n2_:=Aside0.mk (blk_drew BK357.out)
            have n3_:=Aside0.mk (below_drew1 HB.out)
            clear HO_358001
            clear HO_358002
            clear BK357
            clear HB
            have HO_358001:=n0_
            have HO_358002:=n1_
            have BK357:=n2_
            have HB:=n3_
            clear n0_ n1_ n2_ n3_
            refine start_ (n:=13) (S:=fun w'=>w'.cell? ⟨gb357,0,none⟩=some (.string t349)∧w'.cell? ⟨gb357,1,none⟩=some (.slice Ao9 t350.length co9)∧w'.cell? ⟨gb357,2,none⟩=some (.slice Ao10 t353.length co10)) (ds:=[]) #[false,false,false,false,false,false,false,false,false,false,false,false,false] (by kernel_rfl) rfl rfl ⟨(blk_cell BK357.out 0).trans rfl,(blk_cell BK357.out 1).trans rfl,(blk_cell BK357.out 2).trans rfl⟩ (fun hHeld=>?_);refine with_tabW laws_FnWay.tab6 laws_FnWay.bits6 (fun HT_ HW_=>?_)
            generalize wc.drew=w46 at HO_358001 HO_358002 BK357 HB hHeld ⊢
            refine pure_ (i:=0) (N:=some 46) (v:=?_) (a':=?_) #[true,false,false,false,false,false,false,false,false,false,false,false,false] rfl rfl (any_of HT_.out (by kernel_rfl)) (fun _ _ _ h=>h) (Or.inl ⟨by rfl,?_⟩) ?_ ?_
            rotate_left
            · intro w'
              go_simp
              with_reducible rfl
            rotate_left
            · simp only [Act.put,List.setIfInBounds_toArray,List.set_cons_zero,List.set_cons_succ,i64_w,i32_w]
              rfl
            refine pure_ (i:=2) (N:=some 48) (v:=?_) (a':=?_) #[true,false,true,false,false,false,false,false,false,false,false,false,false] rfl rfl (any_of HT_.out (by kernel_rfl)) (fun _ _ _ h=>h) (Or.inl ⟨by rfl,?_⟩) ?_ ?_
            rotate_left
            · intro w'
              go_simp
              with_reducible rfl
            rotate_left
            · simp only [Act.put,List.setIfInBounds_toArray,List.set_cons_zero,List.set_cons_succ,i64_w,i32_w]
              rfl
            refine take_ (i:=1) (N:=some 47) (v:=?_) (a':=?_) #[true,true,true,false,false,false,false,false,false,false,false,false,false] rfl rfl (take_ofW HT_.out HW_.out (by kernel_rfl)) (fun _ _ _ h=>h) (Or.inl ⟨by rfl,?_⟩) hHeld ?_ ?_
            rotate_left
            · rintro w' ⟨s0,s1,s2⟩
              go_simp
              with_reducible rfl
            rotate_left
            · simp only [Act.put,List.setIfInBounds_toArray,List.set_cons_zero,List.set_cons_succ,i64_w,i32_w]
              rfl
            refine one_ (i:=3) (N:=some 49) #[true,true,true,true,false,false,false,false,false,false,false,false,false] rfl rfl (one_of HT_.out (by kernel_rfl)) (by decide) (fun K hK=>?_)
            refine goes_ Tryd.func52 (by kernel_rfl) rfl #[.agg #[.string t349,.slice Ao9 t350.length co9,.slice Ao10 t353.length co10],.string t356] (by rfl) rfl rfl (by (try simp only [List.map_toArray,List.map_cons,List.map_nil]);first|done|rfl|(simp only [List.length_drop,List.length_take];rfl)) ?_
            with_reducible refine (spec_WayOf.calls kj4 t349 _ _ t350 _ _ t353 t356 t364 _ ?side1 ?side2 ?side3 ?side4 A38.out).mono ?_
            (case side1=>repeat (first|exact (Kd.V_reads' HO_358001.out).2.2|(with_reducible refine Kd.C_alloc ?_ _)|(with_reducible refine Kd.C_drewN ?_ _)|(with_reducible refine Kd.C_drew ?_)))
            (case side2=>exact (Kd.V_reads' HO_358001.out).2.1)
            (case side3=>repeat (first|exact (Kd.V_reads' HO_358002.out).2.2|(with_reducible refine Kd.C_alloc ?_ _)|(with_reducible refine Kd.C_drewN ?_ _)|(with_reducible refine Kd.C_drew ?_)))
            (case side4=>exact (Kd.V_reads' HO_358002.out).2.1)
            rintro e w47 ⟨rfl,hb⟩
            refine ⟨_,rfl,?_⟩
            have n0_:=Aside0.mk (Kd.V_below (by (with_reducible repeat (first|apply Kd.V_alloc|apply Kd.V_drewN|apply Kd.V_drew));exact HO_358001.out) hb)
            have n1_:=Aside0.mk (Kd.V_below (by (with_reducible repeat (first|apply Kd.V_alloc|apply Kd.V_drewN|apply Kd.V_drew));exact HO_358002.out) hb)
            have n2_:=Aside0.mk (blk_below (g:=gb357) (o:=.cells #[.string t349,.slice Ao9 t350.length co9,.slice Ao10 t353.length co10] 56 (0,0)) (by (with_reducible repeat (first|refine blk_drewN ?_ _|refine blk_drew ?_|refine blk_alloc ?_ _));exact BK357.out) hb)
            have n3_:=Aside0.mk (below_step (by repeat (first|(with_reducible first|exact HB.out|apply below_alloc|apply pw_below_drewN|apply below_drew1|refine below_set ?_ GE357.out)|exact HB.out)) hb)
            clear HO_358001
            clear HO_358002
            clear BK357
            clear HB
            have HO_358001:=n0_
            have HO_358002:=n1_
            have BK357:=n2_
            have HB:=n3_
            clear n0_ n1_ n2_ n3_
            (try clear hb)
            (try clear hb2)
            (try clear hk)
            (try clear hi)
            refine hK.out _ _ ⟨(blk_cell BK357.out 0).trans rfl,(blk_cell BK357.out 1).trans rfl,(blk_cell BK357.out 2).trans rfl⟩ (fun hHeld=>?_)
            clear hK K
            refine norm_ (a':=?_) ?_ ?_
            rotate_left
            · show Act.put _ (some 49) _=_
              simp only [Act.put,List.setIfInBounds_toArray,List.set_cons_zero,List.set_cons_succ,i64_w,i32_w]
              rfl
            refine pure_ (i:=4) (N:=some 50) (v:=?_) (a':=?_) #[true,true,true,true,true,false,false,false,false,false,false,false,false] rfl rfl (any_of HT_.out (by kernel_rfl)) (fun _ _ _ h=>h) (Or.inl ⟨by rfl,?_⟩) ?_ ?_
            rotate_left
            · intro w'
              go_simp
              with_reducible rfl
            rotate_left
            · simp only [Act.put,List.setIfInBounds_toArray,List.set_cons_zero,List.set_cons_succ,i64_w,i32_w]
              rfl
            refine pure_ (i:=5) (N:=some 51) (v:=?_) (a':=?_) #[true,true,true,true,true,true,false,false,false,false,false,false,false] rfl rfl (any_of HT_.out (by kernel_rfl)) (fun _ _ _ h=>h) (Or.inl ⟨by rfl,?_⟩) ?_ ?_
            rotate_left
            · intro w'
              go_simp
              with_reducible rfl
            rotate_left
            · simp only [Act.put,List.setIfInBounds_toArray,List.set_cons_zero,List.set_cons_succ,i64_w,i32_w]
              rfl
            refine pure_ (i:=6) (N:=some 52) (v:=undef) (a':=?_) #[true,true,true,true,true,true,true,false,false,false,false,false,false] rfl rfl (any_of HT_.out (by kernel_rfl)) (fun _ _ _ h=>h) (Or.inr ⟨by rfl,rfl⟩) ?_ ?_
            rotate_left
            · simp only [Act.put,List.setIfInBounds_toArray,List.set_cons_zero,List.set_cons_succ,i64_w,i32_w]
              rfl
            refine pure_ (i:=7) (N:=some 53) (v:=undef) (a':=?_) #[true,true,true,true,true,true,true,true,false,false,false,false,false] rfl rfl (any_of HT_.out (by kernel_rfl)) (fun _ _ _ h=>h) (Or.inr ⟨by rfl,rfl⟩) ?_ ?_
            rotate_left
            · simp only [Act.put,List.setIfInBounds_toArray,List.set_cons_zero,List.set_cons_succ,i64_w,i32_w]
              rfl
            refine pure_ (i:=8) (N:=some 54) (v:=undef) (a':=?_) #[true,true,true,true,true,true,true,true,true,false,false,false,false] rfl rfl (any_of HT_.out (by kernel_rfl)) (fun _ _ _ h=>h) (Or.inr ⟨by rfl,rfl⟩) ?_ ?_
            rotate_left
            · simp only [Act.put,List.setIfInBounds_toArray,List.set_cons_zero,List.set_cons_succ,i64_w,i32_w]
              rfl
            refine pure_ (i:=9) (N:=some 55) (v:=undef) (a':=?_) #[true,true,true,true,true,true,true,true,true,true,false,false,false] rfl rfl (any_of HT_.out (by kernel_rfl)) (fun _ _ _ h=>h) (Or.inr ⟨by rfl,rfl⟩) ?_ ?_
            rotate_left
            · simp only [Act.put,List.setIfInBounds_toArray,List.set_cons_zero,List.set_cons_succ,i64_w,i32_w]
              rfl
            refine pure_ (i:=10) (N:=some 56) (v:=undef) (a':=?_) #[true,true,true,true,true,true,true,true,true,true,true,false,false] rfl rfl (any_of HT_.out (by kernel_rfl)) (fun _ _ _ h=>h) (Or.inr ⟨by rfl,rfl⟩) ?_ ?_
            rotate_left
            · simp only [Act.put,List.setIfInBounds_toArray,List.set_cons_zero,List.set_cons_succ,i64_w,i32_w]
              rfl
            refine pure_ (i:=11) (N:=some 57) (v:=?_) (a':=?_) #[true,true,true,true,true,true,true,true,true,true,true,true,false] rfl rfl (any_of HT_.out (by kernel_rfl)) (fun _ _ _ h=>h) (Or.inl ⟨by rfl,?_⟩) ?_ ?_
            rotate_left
            · intro w'
              go_simp
              with_reducible rfl
            rotate_left
            · simp only [Act.put,List.setIfInBounds_toArray,List.set_cons_zero,List.set_cons_succ,i64_w,i32_w]
              rfl
            refine pure_ (i:=12) (N:=some 2) (v:=?_) (a':=?_) #[true,true,true,true,true,true,true,true,true,true,true,true,true] rfl rfl (any_of HT_.out (by kernel_rfl)) (fun _ _ _ h=>h) (Or.inl ⟨by rfl,?_⟩) ?_ ?_
            rotate_left
            · intro w'
              go_simp
              with_reducible rfl
            rotate_left
            · simp only [Act.put,List.setIfInBounds_toArray,List.set_cons_zero,List.set_cons_succ,i64_w,i32_w]
              rfl
            refine done_ (done_of HT_.out (by kernel_rfl)) ?_
            try go_wp2
            go_ret
            exact ⟨by first|rfl|(simp [errW_none,errW_some]<;>rfl)|(simp [*,errW_none,errW_some]<;>rfl)|(simp [*,errW_none,errW_some];cases t358.toList<;>rfl),by repeat (first|(with_reducible first|exact HB.out|apply below_alloc|apply pw_below_drewN|apply below_drew1|refine below_set ?_ GE357.out)|exact HB.out)⟩
        · replace c37:=Bool.eq_false_iff.mpr c37
          subst c37
          have H1:(laws_FnWay.l0 kj4 t356 t358 false 0 t349 t350 t353)=some r:=by rw [if_neg (show ¬ (false=true) by decide)] at H;exact H
          clear H
          have H:=H1
          clear H1
          have H':=Aside0.mk H
          clear H
          go_wp2
          go_loopg [6,7] kj4 (fun kq v6 v7 w'=>∃ (x6_2:Bool) (x7_2:Int),v6=.bool x6_2∧v7=.int .i64 x7_2∧Aside0 (laws_FnWay.l0 kq t356 t358 x6_2 x7_2 t349 t350 t353=some r)∧Aside0 (kq≤kj4)∧Aside0 (Kd.V Kd.string 9 w' w.heap.size (fun k_=>k_≠gb357) (.slice Ao9 t350.length co9) t350)∧Aside0 (Kd.V k69 69 w' w.heap.size (fun k_=>k_≠gb357) (.slice Ao10 t353.length co10) t353)∧Aside0 (w'.heap[gb357]?=some (.cells #[.string t349,(.slice Ao9 t350.length co9),(.slice Ao10 t353.length co10)] 56 (0,0)))∧Aside0 (Below w.heap.size w w'))
          case atStart=>exact ⟨(false),(0),(by first|rfl|(simp;done)|(simp [*];done)),(by first|rfl|(simp;done)|(simp [*];done)),H',⟨Nat.le_refl _⟩,⟨by (with_reducible repeat (first|apply Kd.V_alloc|apply Kd.V_drewN|apply Kd.V_drew));exact HO_358001.out⟩,⟨by (with_reducible repeat (first|apply Kd.V_alloc|apply Kd.V_drewN|apply Kd.V_drew));exact HO_358002.out⟩,⟨by (with_reducible repeat (first|refine blk_drewN ?_ _|refine blk_drew ?_|refine blk_alloc ?_ _));exact BK357.out⟩,⟨by repeat (first|(with_reducible first|exact HB.out|apply below_alloc|apply pw_below_drewN|apply below_drew1|refine below_set ?_ GE357.out)|exact HB.out)⟩⟩
          case round =>
            clear H'
            try clear c1
            try clear c2
            try clear p2
            try clear c3
            try clear c4
            try clear c5
            try clear c13
            try clear c13b0
            try clear c13b1
            try clear c18
            try clear c22
            try clear c37
            try clear c39
            try clear c39b0
            try clear c39b1
            try clear c40
            try clear c42
            try clear p2
            obtain ⟨x6_2,x7_2,rfl,rfl,HA,HK2,HO_358001,HO_358002,BK357,HB⟩:=hrel
            cases gk with
            | zero=>exact absurd HA.out (by simp [laws_FnWay.l0])
            | succ k2 =>
              have H:=HA.out
              clear HA
              simp only [laws_FnWay.l0] at H
              by_cases c48:x7_2 < (t350.length:Int)
              · rw [if_pos c48] at H
                have c48b0:decide (x7_2 < (t350.length:Int))=true:=decide_eq_true c48
                clear c48
                by_cases c49:x6_2=true
                · subst c49
                  have H1:(laws_FnWay.l0 k2 t356 t358 true (wrap64 (x7_2+1)) t349 t350 t353)=some r:=by rw [if_pos rfl] at H;exact H
                  clear H
                  have H:=H1
                  clear H1
                  have H':=Aside0.mk H
                  clear H
                  have hcz50_0:wr.cell? ⟨gb357,0,none⟩=some (.string t349):=(blk_cell BK357.out 0).trans rfl
                  have hcz50_1:wr.cell? ⟨gb357,1,none⟩=some (.slice Ao9 t350.length co9):=(blk_cell BK357.out 1).trans rfl
                  have hcz50_2:wr.cell? ⟨gb357,2,none⟩=some (.slice Ao10 t353.length co10):=(blk_cell BK357.out 2).trans rfl
                  have hfz50_0:=blk_frozen BK357.out 0
                  have hfz50_1:=blk_frozen BK357.out 1
                  have hfz50_2:=blk_frozen BK357.out 2
                  go_wp2
                  go_roundg k2
                  case measure=>have:=HJ4.out;have:=HK2.out;omega
                  case rel=>exact ⟨(true),(wrap64 (x7_2+1)),(by first|rfl|(simp;done)|(simp [*];done)),(by first|rfl|(simp;done)|(simp [*];done)),H',⟨by have:=HJ4.out;have:=HK2.out;omega⟩,⟨by (with_reducible repeat (first|apply Kd.V_alloc|apply Kd.V_drewN|apply Kd.V_drew));exact HO_358001.out⟩,⟨by (with_reducible repeat (first|apply Kd.V_alloc|apply Kd.V_drewN|apply Kd.V_drew));exact HO_358002.out⟩,⟨by (with_reducible repeat (first|refine blk_drewN ?_ _|refine blk_drew ?_|refine blk_alloc ?_ _));exact BK357.out⟩,⟨by repeat (first|(with_reducible first|exact HB.out|apply below_alloc|apply pw_below_drewN|apply below_drew1|refine below_set ?_ GE357.out)|exact HB.out)⟩⟩
                · replace c49:=Bool.eq_false_iff.mpr c49
                  subst c49
                  have H1:(if 0≤x7_2 then (laws_FnWay.l0 k2 t356 t358 ((rdOf ByteArray.empty t350 x7_2).toList==t356.toList) (wrap64 (x7_2+1)) t349 t350 t353) else (none))=some r:=by rw [if_neg (show ¬ (false=true) by decide)] at H;exact H
                  clear H
                  have H:=H1
                  clear H1
                  by_cases c51:0≤x7_2
                  · rw [if_pos c51] at H
                    have c51b0:decide (0≤x7_2)=true:=decide_eq_true c51
                    clear c51
                    have H':=Aside0.mk H
                    clear H
                    have hcz52_0:wr.cell? ⟨gb357,0,none⟩=some (.string t349):=(blk_cell BK357.out 0).trans rfl
                    have hcz52_1:wr.cell? ⟨gb357,1,none⟩=some (.slice Ao9 t350.length co9):=(blk_cell BK357.out 1).trans rfl
                    have hcz52_2:wr.cell? ⟨gb357,2,none⟩=some (.slice Ao10 t353.length co10):=(blk_cell BK357.out 2).trans rfl
                    have hfz52_0:=blk_frozen BK357.out 0
                    have hfz52_1:=blk_frozen BK357.out 1
                    have hfz52_2:=blk_frozen BK357.out 2
                    have p367:0≤(x7_2:Int):=of_decide_eq_true (by first|(with_reducible assumption)|assumption)
                    have q367:x7_2 < (t350.length:Int):=of_decide_eq_true (by first|(with_reducible assumption)|assumption)
                    obtain ⟨ad367,e367,hx367_0⟩:=Kd.at_string (Kd.V_reads' HO_358001.out).2.2 x7_2 p367 q367
                    cases e367
                    replace p367:=eq_true p367
                    replace q367:=eq_true q367
                    go_wp2
                    go_roundg k2
                    case measure=>have:=HJ4.out;have:=HK2.out;omega
                    case rel=>exact ⟨(((rdOf ByteArray.empty t350 x7_2).toList==t356.toList)),(wrap64 (x7_2+1)),(by first|rfl|(simp;done)|(simp [*];done)),(by first|rfl|(simp;done)|(simp [*];done)),H',⟨by have:=HJ4.out;have:=HK2.out;omega⟩,⟨by (with_reducible repeat (first|apply Kd.V_alloc|apply Kd.V_drewN|apply Kd.V_drew));exact HO_358001.out⟩,⟨by (with_reducible repeat (first|apply Kd.V_alloc|apply Kd.V_drewN|apply Kd.V_drew));exact HO_358002.out⟩,⟨by (with_reducible repeat (first|refine blk_drewN ?_ _|refine blk_drew ?_|refine blk_alloc ?_ _));exact BK357.out⟩,⟨by repeat (first|(with_reducible first|exact HB.out|apply below_alloc|apply pw_below_drewN|apply below_drew1|refine below_set ?_ GE357.out)|exact HB.out)⟩⟩
                  · rw [if_neg c51] at H
                    exact absurd H (by simp)
              · rw [if_neg c48] at H
                have c48b0:decide (x7_2 < (t350.length:Int))=false:=decide_eq_false c48
                clear c48
                have H':=Aside0.mk H
                clear H
                have hcz53_0:wr.cell? ⟨gb357,0,none⟩=some (.string t349):=(blk_cell BK357.out 0).trans rfl
                have hcz53_1:wr.cell? ⟨gb357,1,none⟩=some (.slice Ao9 t350.length co9):=(blk_cell BK357.out 1).trans rfl
                have hcz53_2:wr.cell? ⟨gb357,2,none⟩=some (.slice Ao10 t353.length co10):=(blk_cell BK357.out 2).trans rfl
                have hfz53_0:=blk_frozen BK357.out 0
                have hfz53_1:=blk_frozen BK357.out 1
                have hfz53_2:=blk_frozen BK357.out 2
                go_wp2
                go_loopg [8,9] k2 (fun kq v8 v9 w'=>∃ (x8_3:Int) (x9_3:Int),v8=.int .i64 x8_3∧v9=.int .i64 x9_3∧Aside0 (laws_FnWay.l1 kq t356 t358 x6_2 x8_3 x9_3 t349 t350 t353=some r)∧Aside0 (kq≤k2)∧Aside0 (Kd.V Kd.string 9 w' w.heap.size (fun k_=>k_≠gb357) (.slice Ao9 t350.length co9) t350)∧Aside0 (Kd.V k69 69 w' w.heap.size (fun k_=>k_≠gb357) (.slice Ao10 t353.length co10) t353)∧Aside0 (w'.heap[gb357]?=some (.cells #[.string t349,(.slice Ao9 t350.length co9),(.slice Ao10 t353.length co10)] 56 (0,0)))∧Aside0 (Below w.heap.size w w'))
                case atStart=>exact ⟨(0),(0),(by first|rfl|(simp;done)|(simp [*];done)),(by first|rfl|(simp;done)|(simp [*];done)),H',⟨Nat.le_refl _⟩,⟨by (with_reducible repeat (first|apply Kd.V_alloc|apply Kd.V_drewN|apply Kd.V_drew));exact HO_358001.out⟩,⟨by (with_reducible repeat (first|apply Kd.V_alloc|apply Kd.V_drewN|apply Kd.V_drew));exact HO_358002.out⟩,⟨by (with_reducible repeat (first|refine blk_drewN ?_ _|refine blk_drew ?_|refine blk_alloc ?_ _));exact BK357.out⟩,⟨by repeat (first|(with_reducible first|exact HB.out|apply below_alloc|apply pw_below_drewN|apply below_drew1|refine below_set ?_ GE357.out)|exact HB.out)⟩⟩
                case round =>
                  clear H'
                  try clear c1
                  try clear c2
                  try clear p2
                  try clear c3
                  try clear p3
                  try clear q3
                  try clear hx3
                  try clear c4
                  try clear c5
                  try clear p6
                  try clear c13
                  try clear c13b0
                  try clear c13b1
                  try clear c18
                  try clear c22
                  try clear p36
                  try clear q36
                  try clear hx36
                  try clear c37
                  try clear c39
                  try clear c39b0
                  try clear c39b1
                  try clear c40
                  try clear c42
                  try clear c48
                  try clear c48b0
                  try clear c49
                  try clear c51
                  try clear c51b0
                  try clear c52
                  try clear hcz50_0
                  try clear hcz50_1
                  try clear hcz50_2
                  try clear hcz52_0
                  try clear hcz52_1
                  try clear hcz52_2
                  try clear hcz53_0
                  try clear hcz53_1
                  try clear hcz53_2
                  try clear hfz50_0
                  try clear hfz50_1
                  try clear hfz50_2
                  try clear hfz52_0
                  try clear hfz52_1
                  try clear hfz52_2
                  try clear hfz53_0
                  try clear hfz53_1
                  try clear hfz53_2
                  try clear hx367_0
                  try clear p2
                  try clear p367
                  try clear q367
                  obtain ⟨x8_3,x9_3,rfl,rfl,HA,HK3,HO_358001,HO_358002,BK357,HB⟩:=hrel
                  cases gk with
                  | zero=>exact absurd HA.out (by simp [laws_FnWay.l1])
                  | succ k3 =>
                    have H:=HA.out
                    clear HA
                    simp only [laws_FnWay.l1] at H
                    by_cases c54:x9_3 < (t353.length:Int)
                    · rw [if_pos c54] at H
                      have c54b0:decide (x9_3 < (t353.length:Int))=true:=decide_eq_true c54
                      clear c54
                      by_cases c55:0≤x9_3
                      · rw [if_pos c55] at H
                        have c55b0:decide (0≤x9_3)=true:=decide_eq_true c55
                        clear c55
                        replace H:=Option.bind_eq_some_iff.mp H
                        obtain ⟨t369,A560,H⟩:=H
                        replace H:(if t369=true then (if (((rd_T69 t353 x9_3).f0).size:Int) > x8_3 then (laws_FnWay.l1 k3 t356 t358 x6_2 (((rd_T69 t353 x9_3).f0).size:Int) (wrap64 (x9_3+1)) t349 t350 t353) else (laws_FnWay.l1 k3 t356 t358 x6_2 x8_3 (wrap64 (x9_3+1)) t349 t350 t353)) else (laws_FnWay.l1 k3 t356 t358 x6_2 x8_3 (wrap64 (x9_3+1)) t349 t350 t353))=some r:=H
                        have A56:=Aside0.mk A560
                        clear A560
                        by_cases c57:t369=true
                        · subst c57
                          have H1:(if (((rd_T69 t353 x9_3).f0).size:Int) > x8_3 then (laws_FnWay.l1 k3 t356 t358 x6_2 (((rd_T69 t353 x9_3).f0).size:Int) (wrap64 (x9_3+1)) t349 t350 t353) else (laws_FnWay.l1 k3 t356 t358 x6_2 x8_3 (wrap64 (x9_3+1)) t349 t350 t353))=some r:=by rw [if_pos rfl] at H;exact H
                          clear H
                          have H:=H1
                          clear H1
                          by_cases c58:(((rd_T69 t353 x9_3).f0).size:Int) > x8_3
                          · rw [if_pos c58] at H
                            have c58b0:decide (x8_3 < (((rd_T69 t353 x9_3).f0).size:Int))=true:=decide_eq_true c58
                            clear c58
                            have H':=Aside0.mk H
                            clear H
                            have hcz59_0:wr.cell? ⟨gb357,0,none⟩=some (.string t349):=(blk_cell BK357.out 0).trans rfl
                            have hcz59_1:wr.cell? ⟨gb357,1,none⟩=some (.slice Ao9 t350.length co9):=(blk_cell BK357.out 1).trans rfl
                            have hcz59_2:wr.cell? ⟨gb357,2,none⟩=some (.slice Ao10 t353.length co10):=(blk_cell BK357.out 2).trans rfl
                            have hfz59_0:=blk_frozen BK357.out 0
                            have hfz59_1:=blk_frozen BK357.out 1
                            have hfz59_2:=blk_frozen BK357.out 2
                            have p368:0≤(x9_3:Int):=of_decide_eq_true (by first|(with_reducible assumption)|assumption)
                            have q368:x9_3 < (t353.length:Int):=of_decide_eq_true (by first|(with_reducible assumption)|assumption)
                            obtain ⟨ad368,e368,hx368_0,hx368_1⟩:=at_T69 (Kd.V_reads' HO_358002.out).2.2 x9_3 p368 q368
                            cases e368
                            replace p368:=eq_true p368
                            replace q368:=eq_true q368
                            go_wp2_with (first|((with_reducible refine gate_callee (f:=16) rfl ?_);refine goesL_ (some 89) rfl rfl Tryd.func16 (by kernel_rfl) rfl #[.string t356,.string ((rd_T69 t353 x9_3).f0)] rfl (by (try simp only [List.map_toArray,List.map_cons,List.map_nil]);first|done|rfl|(simp only [List.length_drop,List.length_take];rfl)) ?_;(with_reducible refine (impl_DomainIn.calls k3 t356 ((rd_T69 t353 x9_3).f0) true _ ?side1 A56.out).mono ?_);(case side1=>first|(with_reducible exact HG.out)|((with_reducible repeat (first|exact HG.out|apply GOK.drewN|apply GOK.drew));done)|exact GOK.below HG.out (by repeat (first|(with_reducible first|exact HB.out|apply below_alloc|apply pw_below_drewN|apply below_drew1|refine below_set ?_ GE357.out)|exact HB.out)));rintro e w60 ⟨rfl,hb⟩;refine ⟨_,rfl,?_⟩;have n0_:=Aside0.mk (Kd.V_below (by (with_reducible repeat (first|apply Kd.V_alloc|apply Kd.V_drewN|apply Kd.V_drew));exact HO_358001.out) hb);have n1_:=Aside0.mk (Kd.V_below (by (with_reducible repeat (first|apply Kd.V_alloc|apply Kd.V_drewN|apply Kd.V_drew));exact HO_358002.out) hb);have n2_:=Aside0.mk (blk_below (g:=gb357) (o:=.cells #[.string t349,.slice Ao9 t350.length co9,.slice (some ad368) t353.length co10] 56 (0,0)) (by (with_reducible repeat (first|refine blk_drewN ?_ _|refine blk_drew ?_|refine blk_alloc ?_ _));exact BK357.out) hb);have n3_:=Aside0.mk (below_step (by repeat (first|(with_reducible first|exact HB.out|apply below_alloc|apply pw_below_drewN|apply below_drew1|refine below_set ?_ GE357.out)|exact HB.out)) hb);clear HO_358001;clear HO_358002;clear BK357;clear HB;have HO_358001:=n0_;have HO_358002:=n1_;have BK357:=n2_;have HB:=n3_;clear n0_ n1_ n2_ n3_;(try clear hb);(try clear hb2);(try clear hk);(try clear hi);have hcz61_0:w60.cell? ⟨gb357,0,none⟩=some (.string t349):=(blk_cell BK357.out 0).trans rfl;have hcz61_1:w60.cell? ⟨gb357,1,none⟩=some (.slice Ao9 t350.length co9):=(blk_cell BK357.out 1).trans rfl;have hcz61_2:w60.cell? ⟨gb357,2,none⟩=some (.slice (some ad368) t353.length co10):=(blk_cell BK357.out 2).trans rfl;have hfz61_0:=blk_frozen BK357.out 0;have hfz61_1:=blk_frozen BK357.out 1;have hfz61_2:=blk_frozen BK357.out 2;have p370:0≤(x9_3:Int):=of_decide_eq_true (by first|(with_reducible assumption)|assumption);have q370:x9_3 < (t353.length:Int):=of_decide_eq_true (by first|(with_reducible assumption)|assumption);obtain ⟨ad370,e370,hx370_0,hx370_1⟩:=at_T69 (Kd.V_reads' HO_358002.out).2.2 x9_3 p370 q370;obtain rfl:ad368=ad370:=(by injection e370);replace p370:=eq_true p370;replace q370:=eq_true q370;have p371:0≤(x9_3:Int):=of_decide_eq_true (by first|(with_reducible assumption)|assumption);have q371:x9_3 < (t353.length:Int):=of_decide_eq_true (by first|(with_reducible assumption)|assumption);obtain ⟨ad371,e371,hx371_0,hx371_1⟩:=at_T69 (Kd.V_reads' HO_358002.out).2.2 x9_3 p371 q371;obtain rfl:ad368=ad371:=(by injection e371);replace p371:=eq_true p371;replace q371:=eq_true q371))
                            go_roundg k3
                            case measure=>have:=HJ4.out;have:=HK2.out;have:=HK3.out;omega
                            case rel=>exact ⟨((((rd_T69 t353 x9_3).f0).size:Int)),(wrap64 (x9_3+1)),(by first|rfl|(simp;done)|(simp [*];done)),(by first|rfl|(simp;done)|(simp [*];done)),H',⟨by have:=HJ4.out;have:=HK2.out;have:=HK3.out;omega⟩,⟨by (with_reducible repeat (first|apply Kd.V_alloc|apply Kd.V_drewN|apply Kd.V_drew));exact HO_358001.out⟩,⟨by (with_reducible repeat (first|apply Kd.V_alloc|apply Kd.V_drewN|apply Kd.V_drew));exact HO_358002.out⟩,⟨by (with_reducible repeat (first|refine blk_drewN ?_ _|refine blk_drew ?_|refine blk_alloc ?_ _));exact BK357.out⟩,⟨by repeat (first|(with_reducible first|exact HB.out|apply below_alloc|apply pw_below_drewN|apply below_drew1|refine below_set ?_ GE357.out)|exact HB.out)⟩⟩
                          · rw [if_neg c58] at H
                            have c58b0:decide (x8_3 < (((rd_T69 t353 x9_3).f0).size:Int))=false:=decide_eq_false c58
                            clear c58
                            have H':=Aside0.mk H
                            clear H
                            have hcz62_0:wr.cell? ⟨gb357,0,none⟩=some (.string t349):=(blk_cell BK357.out 0).trans rfl
                            have hcz62_1:wr.cell? ⟨gb357,1,none⟩=some (.slice Ao9 t350.length co9):=(blk_cell BK357.out 1).trans rfl
                            have hcz62_2:wr.cell? ⟨gb357,2,none⟩=some (.slice Ao10 t353.length co10):=(blk_cell BK357.out 2).trans rfl
                            have hfz62_0:=blk_frozen BK357.out 0
                            have hfz62_1:=blk_frozen BK357.out 1
                            have hfz62_2:=blk_frozen BK357.out 2
                            have p368:0≤(x9_3:Int):=of_decide_eq_true (by first|(with_reducible assumption)|assumption)
                            have q368:x9_3 < (t353.length:Int):=of_decide_eq_true (by first|(with_reducible assumption)|assumption)
                            obtain ⟨ad368,e368,hx368_0,hx368_1⟩:=at_T69 (Kd.V_reads' HO_358002.out).2.2 x9_3 p368 q368
                            cases e368
                            replace p368:=eq_true p368
                            replace q368:=eq_true q368
                            go_wp2_with (first|((with_reducible refine gate_callee (f:=16) rfl ?_);refine goesL_ (some 89) rfl rfl Tryd.func16 (by kernel_rfl) rfl #[.string t356,.string ((rd_T69 t353 x9_3).f0)] rfl (by (try simp only [List.map_toArray,List.map_cons,List.map_nil]);first|done|rfl|(simp only [List.length_drop,List.length_take];rfl)) ?_;(with_reducible refine (impl_DomainIn.calls k3 t356 ((rd_T69 t353 x9_3).f0) true _ ?side1 A56.out).mono ?_);(case side1=>first|(with_reducible exact HG.out)|((with_reducible repeat (first|exact HG.out|apply GOK.drewN|apply GOK.drew));done)|exact GOK.below HG.out (by repeat (first|(with_reducible first|exact HB.out|apply below_alloc|apply pw_below_drewN|apply below_drew1|refine below_set ?_ GE357.out)|exact HB.out)));rintro e w63 ⟨rfl,hb⟩;refine ⟨_,rfl,?_⟩;have n0_:=Aside0.mk (Kd.V_below (by (with_reducible repeat (first|apply Kd.V_alloc|apply Kd.V_drewN|apply Kd.V_drew));exact HO_358001.out) hb);have n1_:=Aside0.mk (Kd.V_below (by (with_reducible repeat (first|apply Kd.V_alloc|apply Kd.V_drewN|apply Kd.V_drew));exact HO_358002.out) hb);have n2_:=Aside0.mk (blk_below (g:=gb357) (o:=.cells #[.string t349,.slice Ao9 t350.length co9,.slice (some ad368) t353.length co10] 56 (0,0)) (by (with_reducible repeat (first|refine blk_drewN ?_ _|refine blk_drew ?_|refine blk_alloc ?_ _));exact BK357.out) hb);have n3_:=Aside0.mk (below_step (by repeat (first|(with_reducible first|exact HB.out|apply below_alloc|apply pw_below_drewN|apply below_drew1|refine below_set ?_ GE357.out)|exact HB.out)) hb);clear HO_358001;clear HO_358002;clear BK357;clear HB;have HO_358001:=n0_;have HO_358002:=n1_;have BK357:=n2_;have HB:=n3_;clear n0_ n1_ n2_ n3_;(try clear hb);(try clear hb2);(try clear hk);(try clear hi);have hcz64_0:w63.cell? ⟨gb357,0,none⟩=some (.string t349):=(blk_cell BK357.out 0).trans rfl;have hcz64_1:w63.cell? ⟨gb357,1,none⟩=some (.slice Ao9 t350.length co9):=(blk_cell BK357.out 1).trans rfl;have hcz64_2:w63.cell? ⟨gb357,2,none⟩=some (.slice (some ad368) t353.length co10):=(blk_cell BK357.out 2).trans rfl;have hfz64_0:=blk_frozen BK357.out 0;have hfz64_1:=blk_frozen BK357.out 1;have hfz64_2:=blk_frozen BK357.out 2;have p370:0≤(x9_3:Int):=of_decide_eq_true (by first|(with_reducible assumption)|assumption);have q370:x9_3 < (t353.length:Int):=of_decide_eq_true (by first|(with_reducible assumption)|assumption);obtain ⟨ad370,e370,hx370_0,hx370_1⟩:=at_T69 (Kd.V_reads' HO_358002.out).2.2 x9_3 p370 q370;obtain rfl:ad368=ad370:=(by injection e370);replace p370:=eq_true p370;replace q370:=eq_true q370))
                            go_roundg k3
                            case measure=>have:=HJ4.out;have:=HK2.out;have:=HK3.out;omega
                            case rel=>exact ⟨(x8_3),(wrap64 (x9_3+1)),(by first|rfl|(simp;done)|(simp [*];done)),(by first|rfl|(simp;done)|(simp [*];done)),H',⟨by have:=HJ4.out;have:=HK2.out;have:=HK3.out;omega⟩,⟨by (with_reducible repeat (first|apply Kd.V_alloc|apply Kd.V_drewN|apply Kd.V_drew));exact HO_358001.out⟩,⟨by (with_reducible repeat (first|apply Kd.V_alloc|apply Kd.V_drewN|apply Kd.V_drew));exact HO_358002.out⟩,⟨by (with_reducible repeat (first|refine blk_drewN ?_ _|refine blk_drew ?_|refine blk_alloc ?_ _));exact BK357.out⟩,⟨by repeat (first|(with_reducible first|exact HB.out|apply below_alloc|apply pw_below_drewN|apply below_drew1|refine below_set ?_ GE357.out)|exact HB.out)⟩⟩
                        · replace c57:=Bool.eq_false_iff.mpr c57
                          subst c57
                          have H1:(laws_FnWay.l1 k3 t356 t358 x6_2 x8_3 (wrap64 (x9_3+1)) t349 t350 t353)=some r:=by rw [if_neg (show ¬ (false=true) by decide)] at H;exact H
                          clear H
                          have H:=H1
                          clear H1
                          have H':=Aside0.mk H
                          clear H
                          have hcz65_0:wr.cell? ⟨gb357,0,none⟩=some (.string t349):=(blk_cell BK357.out 0).trans rfl
                          have hcz65_1:wr.cell? ⟨gb357,1,none⟩=some (.slice Ao9 t350.length co9):=(blk_cell BK357.out 1).trans rfl
                          have hcz65_2:wr.cell? ⟨gb357,2,none⟩=some (.slice Ao10 t353.length co10):=(blk_cell BK357.out 2).trans rfl
                          have hfz65_0:=blk_frozen BK357.out 0
                          have hfz65_1:=blk_frozen BK357.out 1
                          have hfz65_2:=blk_frozen BK357.out 2
                          have p368:0≤(x9_3:Int):=of_decide_eq_true (by first|(with_reducible assumption)|assumption)
                          have q368:x9_3 < (t353.length:Int):=of_decide_eq_true (by first|(with_reducible assumption)|assumption)
                          obtain ⟨ad368,e368,hx368_0,hx368_1⟩:=at_T69 (Kd.V_reads' HO_358002.out).2.2 x9_3 p368 q368
                          cases e368
                          replace p368:=eq_true p368
                          replace q368:=eq_true q368
                          go_wp2_with (first|((with_reducible refine gate_callee (f:=16) rfl ?_);refine goesL_ (some 89) rfl rfl Tryd.func16 (by kernel_rfl) rfl #[.string t356,.string ((rd_T69 t353 x9_3).f0)] rfl (by (try simp only [List.map_toArray,List.map_cons,List.map_nil]);first|done|rfl|(simp only [List.length_drop,List.length_take];rfl)) ?_;(with_reducible refine (impl_DomainIn.calls k3 t356 ((rd_T69 t353 x9_3).f0) false _ ?side1 A56.out).mono ?_);(case side1=>first|(with_reducible exact HG.out)|((with_reducible repeat (first|exact HG.out|apply GOK.drewN|apply GOK.drew));done)|exact GOK.below HG.out (by repeat (first|(with_reducible first|exact HB.out|apply below_alloc|apply pw_below_drewN|apply below_drew1|refine below_set ?_ GE357.out)|exact HB.out)));rintro e w66 ⟨rfl,hb⟩;refine ⟨_,rfl,?_⟩;have n0_:=Aside0.mk (Kd.V_below (by (with_reducible repeat (first|apply Kd.V_alloc|apply Kd.V_drewN|apply Kd.V_drew));exact HO_358001.out) hb);have n1_:=Aside0.mk (Kd.V_below (by (with_reducible repeat (first|apply Kd.V_alloc|apply Kd.V_drewN|apply Kd.V_drew));exact HO_358002.out) hb);have n2_:=Aside0.mk (blk_below (g:=gb357) (o:=.cells #[.string t349,.slice Ao9 t350.length co9,.slice (some ad368) t353.length co10] 56 (0,0)) (by (with_reducible repeat (first|refine blk_drewN ?_ _|refine blk_drew ?_|refine blk_alloc ?_ _));exact BK357.out) hb);have n3_:=Aside0.mk (below_step (by repeat (first|(with_reducible first|exact HB.out|apply below_alloc|apply pw_below_drewN|apply below_drew1|refine below_set ?_ GE357.out)|exact HB.out)) hb);clear HO_358001;clear HO_358002;clear BK357;clear HB;have HO_358001:=n0_;have HO_358002:=n1_;have BK357:=n2_;have HB:=n3_;clear n0_ n1_ n2_ n3_;(try clear hb);(try clear hb2);(try clear hk);(try clear hi)))
                          go_roundg k3
                          case measure=>have:=HJ4.out;have:=HK2.out;have:=HK3.out;omega
                          case rel=>exact ⟨(x8_3),(wrap64 (x9_3+1)),(by first|rfl|(simp;done)|(simp [*];done)),(by first|rfl|(simp;done)|(simp [*];done)),H',⟨by have:=HJ4.out;have:=HK2.out;have:=HK3.out;omega⟩,⟨by (with_reducible repeat (first|apply Kd.V_alloc|apply Kd.V_drewN|apply Kd.V_drew));exact HO_358001.out⟩,⟨by (with_reducible repeat (first|apply Kd.V_alloc|apply Kd.V_drewN|apply Kd.V_drew));exact HO_358002.out⟩,⟨by (with_reducible repeat (first|refine blk_drewN ?_ _|refine blk_drew ?_|refine blk_alloc ?_ _));exact BK357.out⟩,⟨by repeat (first|(with_reducible first|exact HB.out|apply below_alloc|apply pw_below_drewN|apply below_drew1|refine below_set ?_ GE357.out)|exact HB.out)⟩⟩
                      · rw [if_neg c55] at H
                        exact absurd H (by simp)
                    · rw [if_neg c54] at H
                      have c54b0:decide (x9_3 < (t353.length:Int))=false:=decide_eq_false c54
                      clear c54
                      have HC67:=Aside0.mk H
                      clear H
                      have hcz68_0:wr.cell? ⟨gb357,0,none⟩=some (.string t349):=(blk_cell BK357.out 0).trans rfl
                      have hcz68_1:wr.cell? ⟨gb357,1,none⟩=some (.slice Ao9 t350.length co9):=(blk_cell BK357.out 1).trans rfl
                      have hcz68_2:wr.cell? ⟨gb357,2,none⟩=some (.slice Ao10 t353.length co10):=(blk_cell BK357.out 2).trans rfl
                      have hfz68_0:=blk_frozen BK357.out 0
                      have hfz68_1:=blk_frozen BK357.out 1
                      have hfz68_2:=blk_frozen BK357.out 2
                      go_upto_region 18 with (fail)
                      go_cut [10] (fun v10 wc=>∃ (kq:Nat) (x10_66:Bool),v10=.bool x10_66∧Aside0 (laws_FnWay.j3 kq t356 t358 x6_2 x8_3 x10_66 t349 t350 t353=some r)∧Aside0 (kq≤k3)∧Aside0 (Kd.V Kd.string 9 wc w.heap.size (fun k_=>k_≠gb357) (.slice Ao9 t350.length co9) t350)∧Aside0 (Kd.V k69 69 wc w.heap.size (fun k_=>k_≠gb357) (.slice Ao10 t353.length co10) t353)∧Aside0 (wc.heap[gb357]?=some (.cells #[.string t349,(.slice Ao9 t350.length co9),(.slice Ao10 t353.length co10)] 56 (0,0)))∧Aside0 (Below w.heap.size w wc))
                      case first =>
                        have H:=HC67.out
                        clear HC67
                        by_cases c69:x8_3=0
                        · rw [if_pos c69] at H
                          have c69b0:(x8_3==0)=true:=beq_iff_eq.mpr c69
                          have c69b1:(x8_3 != 0)=false:=bne_eq_false_iff_eq.mpr c69
                          clear c69
                          (first|rw [c69b0]|(simp only [i64_w,i32_w];rw [c69b0])|skip)
                          have H':=Aside0.mk H
                          clear H
                          go_wp2
                          go_meet
                          case rel=>exact ⟨_,((t358.toList==([]:List UInt8))),(by first|rfl|(simp;done)|(simp [*];done)),H',⟨by have:=HJ4.out;have:=HK2.out;have:=HK3.out;first|omega|exact Nat.le_refl _⟩,⟨by (with_reducible repeat (first|apply Kd.V_alloc|apply Kd.V_drewN|apply Kd.V_drew));exact HO_358001.out⟩,⟨by (with_reducible repeat (first|apply Kd.V_alloc|apply Kd.V_drewN|apply Kd.V_drew));exact HO_358002.out⟩,⟨by (with_reducible repeat (first|refine blk_drewN ?_ _|refine blk_drew ?_|refine blk_alloc ?_ _));exact BK357.out⟩,⟨by repeat (first|(with_reducible first|exact HB.out|apply below_alloc|apply pw_below_drewN|apply below_drew1|refine below_set ?_ GE357.out)|exact HB.out)⟩⟩
                        · rw [if_neg c69] at H
                          have c69b0:(x8_3==0)=false:=beq_eq_false_iff_ne.mpr c69
                          have c69b1:(x8_3 != 0)=true:=bne_iff_ne.mpr c69
                          (first|rw [c69b0]|(simp only [i64_w,i32_w];rw [c69b0])|skip)
                          have H':=Aside0.mk H
                          clear H
                          go_wp2
                          go_meet
                          case rel=>exact ⟨_,(false),(by first|rfl|(simp;done)|(simp [*];done)),H',⟨by have:=HJ4.out;have:=HK2.out;have:=HK3.out;first|omega|exact Nat.le_refl _⟩,⟨by (with_reducible repeat (first|apply Kd.V_alloc|apply Kd.V_drewN|apply Kd.V_drew));exact HO_358001.out⟩,⟨by (with_reducible repeat (first|apply Kd.V_alloc|apply Kd.V_drewN|apply Kd.V_drew));exact HO_358002.out⟩,⟨by (with_reducible repeat (first|refine blk_drewN ?_ _|refine blk_drew ?_|refine blk_alloc ?_ _));exact BK357.out⟩,⟨by repeat (first|(with_reducible first|exact HB.out|apply below_alloc|apply pw_below_drewN|apply below_drew1|refine below_set ?_ GE357.out)|exact HB.out)⟩⟩
                      case rest =>
                        clear HC67
                        try clear c1
                        try clear c2
                        try clear p2
                        try clear c3
                        try clear p3
                        try clear q3
                        try clear hx3
                        try clear c4
                        try clear c5
                        try clear c6
                        try clear p6
                        try clear c13
                        try clear c13b0
                        try clear c13b1
                        try clear c16
                        try clear c18
                        try clear c22
                        try clear p36
                        try clear q36
                        try clear hx36
                        try clear c37
                        try clear p37
                        try clear q37
                        try clear hx37
                        try clear c39
                        try clear c39b0
                        try clear c39b1
                        try clear c40
                        try clear c42
                        try clear c48
                        try clear c48b0
                        try clear c49
                        try clear c51
                        try clear c51b0
                        try clear c52
                        try clear c54
                        try clear c54b0
                        try clear c55
                        try clear c55b0
                        try clear c57
                        try clear c58
                        try clear c58b0
                        try clear p64
                        try clear c69
                        try clear c69b0
                        try clear c69b1
                        try clear hcz50_0
                        try clear hcz50_1
                        try clear hcz50_2
                        try clear hcz52_0
                        try clear hcz52_1
                        try clear hcz52_2
                        try clear hcz53_0
                        try clear hcz53_1
                        try clear hcz53_2
                        try clear hcz59_0
                        try clear hcz59_1
                        try clear hcz59_2
                        try clear hcz61_0
                        try clear hcz61_1
                        try clear hcz61_2
                        try clear hcz62_0
                        try clear hcz62_1
                        try clear hcz62_2
                        try clear hcz64_0
                        try clear hcz64_1
                        try clear hcz64_2
                        try clear hcz65_0
                        try clear hcz65_1
                        try clear hcz65_2
                        try clear hcz68_0
                        try clear hcz68_1
                        try clear hcz68_2
                        try clear hfz50_0
                        try clear hfz50_1
                        try clear hfz50_2
                        try clear hfz52_0
                        try clear hfz52_1
                        try clear hfz52_2
                        try clear hfz53_0
                        try clear hfz53_1
                        try clear hfz53_2
                        try clear hfz59_0
                        try clear hfz59_1
                        try clear hfz59_2
                        try clear hfz61_0
                        try clear hfz61_1
                        try clear hfz61_2
                        try clear hfz62_0
                        try clear hfz62_1
                        try clear hfz62_2
                        try clear hfz64_0
                        try clear hfz64_1
                        try clear hfz64_2
                        try clear hfz65_0
                        try clear hfz65_1
                        try clear hfz65_2
                        try clear hfz68_0
                        try clear hfz68_1
                        try clear hfz68_2
                        try clear hx367_0
                        try clear hx368_0
                        try clear hx368_1
                        try clear hx370_0
                        try clear hx370_1
                        try clear hx371_0
                        try clear hx371_1
                        try clear p2
                        try clear p3
                        try clear p36
                        try clear p367
                        try clear p368
                        try clear p370
                        try clear p371
                        try clear p6
                        try clear q3
                        try clear q36
                        try clear q367
                        try clear q368
                        try clear q370
                        try clear q371
                        obtain ⟨kq,x10_66,rfl,HA,HJ66,HO_358001,HO_358002,BK357,HB⟩:=hcut
                        cases kq with
                        | zero=>exact absurd HA.out (by simp [laws_FnWay.j3])
                        | succ kj66 =>
                          have H:=HA.out
                          clear HA
                          simp only [laws_FnWay.j3] at H
                          have H':=Aside0.mk H
                          clear H
                          go_wp2
                          go_loopg [10,11] kj66 (fun kq v10 v11 w'=>∃ (x10_5:Bool) (x11_5:Int),v10=.bool x10_5∧v11=.int .i64 x11_5∧Aside0 (laws_FnWay.l2 kq t356 t358 x6_2 x8_3 x10_5 x11_5 t349 t350 t353=some r)∧Aside0 (kq≤kj66)∧Aside0 (Kd.V Kd.string 9 w' w.heap.size (fun k_=>k_≠gb357) (.slice Ao9 t350.length co9) t350)∧Aside0 (Kd.V k69 69 w' w.heap.size (fun k_=>k_≠gb357) (.slice Ao10 t353.length co10) t353)∧Aside0 (w'.heap[gb357]?=some (.cells #[.string t349,(.slice Ao9 t350.length co9),(.slice Ao10 t353.length co10)] 56 (0,0)))∧Aside0 (Below w.heap.size w w'))
                          case atStart=>exact ⟨(x10_66),(0),(by first|rfl|(simp;done)|(simp [*];done)),(by first|rfl|(simp;done)|(simp [*];done)),H',⟨Nat.le_refl _⟩,⟨by (with_reducible repeat (first|apply Kd.V_alloc|apply Kd.V_drewN|apply Kd.V_drew));exact HO_358001.out⟩,⟨by (with_reducible repeat (first|apply Kd.V_alloc|apply Kd.V_drewN|apply Kd.V_drew));exact HO_358002.out⟩,⟨by (with_reducible repeat (first|refine blk_drewN ?_ _|refine blk_drew ?_|refine blk_alloc ?_ _));exact BK357.out⟩,⟨by repeat (first|(with_reducible first|exact HB.out|apply below_alloc|apply pw_below_drewN|apply below_drew1|refine below_set ?_ GE357.out)|exact HB.out)⟩⟩
                          case round =>
                            clear H'
                            try clear c1
                            try clear c2
                            try clear p2
                            try clear c3
                            try clear p3
                            try clear q3
                            try clear hx3
                            try clear c4
                            try clear c5
                            try clear c6
                            try clear p6
                            try clear c13
                            try clear c13b0
                            try clear c13b1
                            try clear c16
                            try clear c18
                            try clear c22
                            try clear p36
                            try clear q36
                            try clear hx36
                            try clear c37
                            try clear p37
                            try clear q37
                            try clear hx37
                            try clear c39
                            try clear c39b0
                            try clear c39b1
                            try clear c40
                            try clear c42
                            try clear c48
                            try clear c48b0
                            try clear c49
                            try clear c51
                            try clear c51b0
                            try clear c52
                            try clear c54
                            try clear c54b0
                            try clear c55
                            try clear c55b0
                            try clear c57
                            try clear c58
                            try clear c58b0
                            try clear p64
                            try clear c69
                            try clear c69b0
                            try clear c69b1
                            try clear hcz50_0
                            try clear hcz50_1
                            try clear hcz50_2
                            try clear hcz52_0
                            try clear hcz52_1
                            try clear hcz52_2
                            try clear hcz53_0
                            try clear hcz53_1
                            try clear hcz53_2
                            try clear hcz59_0
                            try clear hcz59_1
                            try clear hcz59_2
                            try clear hcz61_0
                            try clear hcz61_1
                            try clear hcz61_2
                            try clear hcz62_0
                            try clear hcz62_1
                            try clear hcz62_2
                            try clear hcz64_0
                            try clear hcz64_1
                            try clear hcz64_2
                            try clear hcz65_0
                            try clear hcz65_1
                            try clear hcz65_2
                            try clear hcz68_0
                            try clear hcz68_1
                            try clear hcz68_2
                            try clear hfz50_0
                            try clear hfz50_1
                            try clear hfz50_2
                            try clear hfz52_0
                            try clear hfz52_1
                            try clear hfz52_2
                            try clear hfz53_0
                            try clear hfz53_1
                            try clear hfz53_2
                            try clear hfz59_0
                            try clear hfz59_1
                            try clear hfz59_2
                            try clear hfz61_0
                            try clear hfz61_1
                            try clear hfz61_2
                            try clear hfz62_0
                            try clear hfz62_1
                            try clear hfz62_2
                            try clear hfz64_0
                            try clear hfz64_1
                            try clear hfz64_2
                            try clear hfz65_0
                            try clear hfz65_1
                            try clear hfz65_2
                            try clear hfz68_0
                            try clear hfz68_1
                            try clear hfz68_2
                            try clear hx367_0
                            try clear hx368_0
                            try clear hx368_1
                            try clear hx370_0
                            try clear hx370_1
                            try clear hx371_0
                            try clear hx371_1
                            try clear p2
                            try clear p3
                            try clear p36
                            try clear p367
                            try clear p368
                            try clear p37
                            try clear p370
                            try clear p371
                            try clear p6
                            try clear p64
                            try clear q3
                            try clear q36
                            try clear q367
                            try clear q368
                            try clear q37
                            try clear q370
                            try clear q371
                            obtain ⟨x10_5,x11_5,rfl,rfl,HA,HK5,HO_358001,HO_358002,BK357,HB⟩:=hrel
                            cases gk with
                            | zero=>exact absurd HA.out (by simp [laws_FnWay.l2])
                            | succ k5 =>
                              have H:=HA.out
                              clear HA
                              simp only [laws_FnWay.l2] at H
                              by_cases c70:x11_5 < (t353.length:Int)
                              · rw [if_pos c70] at H
                                have c70b0:decide (x11_5 < (t353.length:Int))=true:=decide_eq_true c70
                                clear c70
                                by_cases c71:x10_5=true
                                · subst c71
                                  have H1:(laws_FnWay.l2 k5 t356 t358 x6_2 x8_3 true (wrap64 (x11_5+1)) t349 t350 t353)=some r:=by rw [if_pos rfl] at H;exact H
                                  clear H
                                  have H:=H1
                                  clear H1
                                  have H':=Aside0.mk H
                                  clear H
                                  have hcz72_0:wr.cell? ⟨gb357,0,none⟩=some (.string t349):=(blk_cell BK357.out 0).trans rfl
                                  have hcz72_1:wr.cell? ⟨gb357,1,none⟩=some (.slice Ao9 t350.length co9):=(blk_cell BK357.out 1).trans rfl
                                  have hcz72_2:wr.cell? ⟨gb357,2,none⟩=some (.slice Ao10 t353.length co10):=(blk_cell BK357.out 2).trans rfl
                                  have hfz72_0:=blk_frozen BK357.out 0
                                  have hfz72_1:=blk_frozen BK357.out 1
                                  have hfz72_2:=blk_frozen BK357.out 2
                                  go_wp2
                                  go_roundg k5
                                  case measure=>have:=HJ4.out;have:=HK2.out;have:=HK3.out;have:=HJ66.out;have:=HK5.out;omega
                                  case rel=>exact ⟨(true),(wrap64 (x11_5+1)),(by first|rfl|(simp;done)|(simp [*];done)),(by first|rfl|(simp;done)|(simp [*];done)),H',⟨by have:=HJ4.out;have:=HK2.out;have:=HK3.out;have:=HJ66.out;have:=HK5.out;omega⟩,⟨by (with_reducible repeat (first|apply Kd.V_alloc|apply Kd.V_drewN|apply Kd.V_drew));exact HO_358001.out⟩,⟨by (with_reducible repeat (first|apply Kd.V_alloc|apply Kd.V_drewN|apply Kd.V_drew));exact HO_358002.out⟩,⟨by (with_reducible repeat (first|refine blk_drewN ?_ _|refine blk_drew ?_|refine blk_alloc ?_ _));exact BK357.out⟩,⟨by repeat (first|(with_reducible first|exact HB.out|apply below_alloc|apply pw_below_drewN|apply below_drew1|refine below_set ?_ GE357.out)|exact HB.out)⟩⟩
                                · replace c71:=Bool.eq_false_iff.mpr c71
                                  subst c71
                                  have H1:(if t358.toList=([]:List UInt8) then (laws_FnWay.l2 k5 t356 t358 x6_2 x8_3 false (wrap64 (x11_5+1)) t349 t350 t353) else (if 0≤x11_5 then (if t358.toList=((rd_T69 t353 x11_5).f1).toList then (if (((rd_T69 t353 x11_5).f0).size:Int)=x8_3 then ((impl_DomainIn.f k5 t356 ((rd_T69 t353 x11_5).f0)).bind fun t375=>(laws_FnWay.l2 k5 t356 t358 x6_2 x8_3 t375 (wrap64 (x11_5+1)) t349 t350 t353)) else (laws_FnWay.l2 k5 t356 t358 x6_2 x8_3 false (wrap64 (x11_5+1)) t349 t350 t353)) else (laws_FnWay.l2 k5 t356 t358 x6_2 x8_3 false (wrap64 (x11_5+1)) t349 t350 t353)) else (none)))=some r:=by rw [if_neg (show ¬ (false=true) by decide)] at H;exact H
                                  clear H
                                  have H:=H1
                                  clear H1
                                  by_cases c73:t358.toList=([]:List UInt8)
                                  · rw [if_pos c73] at H
                                    have c73b0:(t358.toList==([]:List UInt8))=true:=beq_iff_eq.mpr c73
                                    have c73b1:(t358.toList != ([]:List UInt8))=false:=bne_eq_false_iff_eq.mpr c73
                                    clear c73
                                    have H':=Aside0.mk H
                                    clear H
                                    have hcz74_0:wr.cell? ⟨gb357,0,none⟩=some (.string t349):=(blk_cell BK357.out 0).trans rfl
                                    have hcz74_1:wr.cell? ⟨gb357,1,none⟩=some (.slice Ao9 t350.length co9):=(blk_cell BK357.out 1).trans rfl
                                    have hcz74_2:wr.cell? ⟨gb357,2,none⟩=some (.slice Ao10 t353.length co10):=(blk_cell BK357.out 2).trans rfl
                                    have hfz74_0:=blk_frozen BK357.out 0
                                    have hfz74_1:=blk_frozen BK357.out 1
                                    have hfz74_2:=blk_frozen BK357.out 2
                                    go_wp2
                                    go_roundg k5
                                    case measure=>have:=HJ4.out;have:=HK2.out;have:=HK3.out;have:=HJ66.out;have:=HK5.out;omega
                                    case rel=>exact ⟨(false),(wrap64 (x11_5+1)),(by first|rfl|(simp;done)|(simp [*];done)),(by first|rfl|(simp;done)|(simp [*];done)),H',⟨by have:=HJ4.out;have:=HK2.out;have:=HK3.out;have:=HJ66.out;have:=HK5.out;omega⟩,⟨by (with_reducible repeat (first|apply Kd.V_alloc|apply Kd.V_drewN|apply Kd.V_drew));exact HO_358001.out⟩,⟨by (with_reducible repeat (first|apply Kd.V_alloc|apply Kd.V_drewN|apply Kd.V_drew));exact HO_358002.out⟩,⟨by (with_reducible repeat (first|refine blk_drewN ?_ _|refine blk_drew ?_|refine blk_alloc ?_ _));exact BK357.out⟩,⟨by repeat (first|(with_reducible first|exact HB.out|apply below_alloc|apply pw_below_drewN|apply below_drew1|refine below_set ?_ GE357.out)|exact HB.out)⟩⟩
                                  · rw [if_neg c73] at H
                                    have c73b0:(t358.toList==([]:List UInt8))=false:=beq_eq_false_iff_ne.mpr c73
                                    have c73b1:(t358.toList != ([]:List UInt8))=true:=bne_iff_ne.mpr c73
                                    by_cases c75:0≤x11_5
                                    · rw [if_pos c75] at H
                                      have c75b0:decide (0≤x11_5)=true:=decide_eq_true c75
                                      clear c75
                                      by_cases c76:t358.toList=((rd_T69 t353 x11_5).f1).toList
                                      · rw [if_pos c76] at H
                                        have c76b0:(t358.toList==((rd_T69 t353 x11_5).f1).toList)=true:=beq_iff_eq.mpr c76
                                        have c76b1:(t358.toList != ((rd_T69 t353 x11_5).f1).toList)=false:=bne_eq_false_iff_eq.mpr c76
                                        clear c76
                                        by_cases c77:(((rd_T69 t353 x11_5).f0).size:Int)=x8_3
                                        · rw [if_pos c77] at H
                                          have c77b0:((((rd_T69 t353 x11_5).f0).size:Int)==x8_3)=true:=beq_iff_eq.mpr c77
                                          have c77b1:((((rd_T69 t353 x11_5).f0).size:Int) != x8_3)=false:=bne_eq_false_iff_eq.mpr c77
                                          clear c77
                                          replace H:=Option.bind_eq_some_iff.mp H
                                          obtain ⟨t375,A780,H⟩:=H
                                          replace H:(laws_FnWay.l2 k5 t356 t358 x6_2 x8_3 t375 (wrap64 (x11_5+1)) t349 t350 t353)=some r:=H
                                          have A78:=Aside0.mk A780
                                          clear A780
                                          have H':=Aside0.mk H
                                          clear H
                                          have hcz79_0:wr.cell? ⟨gb357,0,none⟩=some (.string t349):=(blk_cell BK357.out 0).trans rfl
                                          have hcz79_1:wr.cell? ⟨gb357,1,none⟩=some (.slice Ao9 t350.length co9):=(blk_cell BK357.out 1).trans rfl
                                          have hcz79_2:wr.cell? ⟨gb357,2,none⟩=some (.slice Ao10 t353.length co10):=(blk_cell BK357.out 2).trans rfl
                                          have hfz79_0:=blk_frozen BK357.out 0
                                          have hfz79_1:=blk_frozen BK357.out 1
                                          have hfz79_2:=blk_frozen BK357.out 2
                                          have p372:0≤(x11_5:Int):=of_decide_eq_true (by first|(with_reducible assumption)|assumption)
                                          have q372:x11_5 < (t353.length:Int):=of_decide_eq_true (by first|(with_reducible assumption)|assumption)
                                          obtain ⟨ad372,e372,hx372_0,hx372_1⟩:=at_T69 (Kd.V_reads' HO_358002.out).2.2 x11_5 p372 q372
                                          cases e372
                                          replace p372:=eq_true p372
                                          replace q372:=eq_true q372
                                          have p373:0≤(x11_5:Int):=of_decide_eq_true (by first|(with_reducible assumption)|assumption)
                                          have q373:x11_5 < (t353.length:Int):=of_decide_eq_true (by first|(with_reducible assumption)|assumption)
                                          obtain ⟨ad373,e373,hx373_0,hx373_1⟩:=at_T69 (Kd.V_reads' HO_358002.out).2.2 x11_5 p373 q373
                                          obtain rfl:ad372=ad373:=(by injection e373)
                                          replace p373:=eq_true p373
                                          replace q373:=eq_true q373
                                          have p374:0≤(x11_5:Int):=of_decide_eq_true (by first|(with_reducible assumption)|assumption)
                                          have q374:x11_5 < (t353.length:Int):=of_decide_eq_true (by first|(with_reducible assumption)|assumption)
                                          obtain ⟨ad374,e374,hx374_0,hx374_1⟩:=at_T69 (Kd.V_reads' HO_358002.out).2.2 x11_5 p374 q374
                                          obtain rfl:ad372=ad374:=(by injection e374)
                                          replace p374:=eq_true p374
                                          replace q374:=eq_true q374
                                          go_wp2_with (first|(go_at_call 16;(with_reducible refine (impl_DomainIn.calls k5 t356 ((rd_T69 t353 x11_5).f0) t375 _ ?side1 A78.out).mono ?_);(case side1=>first|(with_reducible exact HG.out)|((with_reducible repeat (first|exact HG.out|apply GOK.drewN|apply GOK.drew));done)|exact GOK.below HG.out (by repeat (first|(with_reducible first|exact HB.out|apply below_alloc|apply pw_below_drewN|apply below_drew1|refine below_set ?_ GE357.out)|exact HB.out)));rintro e w80 ⟨rfl,hb⟩;have n0_:=Aside0.mk (Kd.V_below (by (with_reducible repeat (first|apply Kd.V_alloc|apply Kd.V_drewN|apply Kd.V_drew));exact HO_358001.out) hb);have n1_:=Aside0.mk (Kd.V_below (by (with_reducible repeat (first|apply Kd.V_alloc|apply Kd.V_drewN|apply Kd.V_drew));exact HO_358002.out) hb);have n2_:=Aside0.mk (blk_below (g:=gb357) (o:=.cells #[.string t349,.slice Ao9 t350.length co9,.slice (some ad372) t353.length co10] 56 (0,0)) (by (with_reducible repeat (first|refine blk_drewN ?_ _|refine blk_drew ?_|refine blk_alloc ?_ _));exact BK357.out) hb);have n3_:=Aside0.mk (below_step (by repeat (first|(with_reducible first|exact HB.out|apply below_alloc|apply pw_below_drewN|apply below_drew1|refine below_set ?_ GE357.out)|exact HB.out)) hb);clear HO_358001;clear HO_358002;clear BK357;clear HB;have HO_358001:=n0_;have HO_358002:=n1_;have BK357:=n2_;have HB:=n3_;clear n0_ n1_ n2_ n3_;(try clear hb);(try clear hb2);(try clear hk);(try clear hi)))
                                          go_roundg k5
                                          case measure=>have:=HJ4.out;have:=HK2.out;have:=HK3.out;have:=HJ66.out;have:=HK5.out;omega
                                          case rel=>exact ⟨(t375),(wrap64 (x11_5+1)),(by first|rfl|(simp;done)|(simp [*];done)),(by first|rfl|(simp;done)|(simp [*];done)),H',⟨by have:=HJ4.out;have:=HK2.out;have:=HK3.out;have:=HJ66.out;have:=HK5.out;omega⟩,⟨by (with_reducible repeat (first|apply Kd.V_alloc|apply Kd.V_drewN|apply Kd.V_drew));exact HO_358001.out⟩,⟨by (with_reducible repeat (first|apply Kd.V_alloc|apply Kd.V_drewN|apply Kd.V_drew));exact HO_358002.out⟩,⟨by (with_reducible repeat (first|refine blk_drewN ?_ _|refine blk_drew ?_|refine blk_alloc ?_ _));exact BK357.out⟩,⟨by repeat (first|(with_reducible first|exact HB.out|apply below_alloc|apply pw_below_drewN|apply below_drew1|refine below_set ?_ GE357.out)|exact HB.out)⟩⟩
                                        · rw [if_neg c77] at H
                                          have c77b0:((((rd_T69 t353 x11_5).f0).size:Int)==x8_3)=false:=beq_eq_false_iff_ne.mpr c77
                                          have c77b1:((((rd_T69 t353 x11_5).f0).size:Int) != x8_3)=true:=bne_iff_ne.mpr c77
                                          have H':=Aside0.mk H
                                          clear H
                                          have hcz81_0:wr.cell? ⟨gb357,0,none⟩=some (.string t349):=(blk_cell BK357.out 0).trans rfl
                                          have hcz81_1:wr.cell? ⟨gb357,1,none⟩=some (.slice Ao9 t350.length co9):=(blk_cell BK357.out 1).trans rfl
                                          have hcz81_2:wr.cell? ⟨gb357,2,none⟩=some (.slice Ao10 t353.length co10):=(blk_cell BK357.out 2).trans rfl
                                          have hfz81_0:=blk_frozen BK357.out 0
                                          have hfz81_1:=blk_frozen BK357.out 1
                                          have hfz81_2:=blk_frozen BK357.out 2
                                          have p372:0≤(x11_5:Int):=of_decide_eq_true (by first|(with_reducible assumption)|assumption)
                                          have q372:x11_5 < (t353.length:Int):=of_decide_eq_true (by first|(with_reducible assumption)|assumption)
                                          obtain ⟨ad372,e372,hx372_0,hx372_1⟩:=at_T69 (Kd.V_reads' HO_358002.out).2.2 x11_5 p372 q372
                                          cases e372
                                          replace p372:=eq_true p372
                                          replace q372:=eq_true q372
                                          have p373:0≤(x11_5:Int):=of_decide_eq_true (by first|(with_reducible assumption)|assumption)
                                          have q373:x11_5 < (t353.length:Int):=of_decide_eq_true (by first|(with_reducible assumption)|assumption)
                                          obtain ⟨ad373,e373,hx373_0,hx373_1⟩:=at_T69 (Kd.V_reads' HO_358002.out).2.2 x11_5 p373 q373
                                          obtain rfl:ad372=ad373:=(by injection e373)
                                          replace p373:=eq_true p373
                                          replace q373:=eq_true q373
                                          go_wp2
                                          go_roundg k5
                                          case measure=>have:=HJ4.out;have:=HK2.out;have:=HK3.out;have:=HJ66.out;have:=HK5.out;omega
                                          case rel=>exact ⟨(false),(wrap64 (x11_5+1)),(by first|rfl|(simp;done)|(simp [*];done)),(by first|rfl|(simp;done)|(simp [*];done)),H',⟨by have:=HJ4.out;have:=HK2.out;have:=HK3.out;have:=HJ66.out;have:=HK5.out;omega⟩,⟨by (with_reducible repeat (first|apply Kd.V_alloc|apply Kd.V_drewN|apply Kd.V_drew));exact HO_358001.out⟩,⟨by (with_reducible repeat (first|apply Kd.V_alloc|apply Kd.V_drewN|apply Kd.V_drew));exact HO_358002.out⟩,⟨by (with_reducible repeat (first|refine blk_drewN ?_ _|refine blk_drew ?_|refine blk_alloc ?_ _));exact BK357.out⟩,⟨by repeat (first|(with_reducible first|exact HB.out|apply below_alloc|apply pw_below_drewN|apply below_drew1|refine below_set ?_ GE357.out)|exact HB.out)⟩⟩
                                      · rw [if_neg c76] at H
                                        have c76b0:(t358.toList==((rd_T69 t353 x11_5).f1).toList)=false:=beq_eq_false_iff_ne.mpr c76
                                        have c76b1:(t358.toList != ((rd_T69 t353 x11_5).f1).toList)=true:=bne_iff_ne.mpr c76
                                        have H':=Aside0.mk H
                                        clear H
                                        have hcz82_0:wr.cell? ⟨gb357,0,none⟩=some (.string t349):=(blk_cell BK357.out 0).trans rfl
                                        have hcz82_1:wr.cell? ⟨gb357,1,none⟩=some (.slice Ao9 t350.length co9):=(blk_cell BK357.out 1).trans rfl
                                        have hcz82_2:wr.cell? ⟨gb357,2,none⟩=some (.slice Ao10 t353.length co10):=(blk_cell BK357.out 2).trans rfl
                                        have hfz82_0:=blk_frozen BK357.out 0
                                        have hfz82_1:=blk_frozen BK357.out 1
                                        have hfz82_2:=blk_frozen BK357.out 2
                                        have p372:0≤(x11_5:Int):=of_decide_eq_true (by first|(with_reducible assumption)|assumption)
                                        have q372:x11_5 < (t353.length:Int):=of_decide_eq_true (by first|(with_reducible assumption)|assumption)
                                        obtain ⟨ad372,e372,hx372_0,hx372_1⟩:=at_T69 (Kd.V_reads' HO_358002.out).2.2 x11_5 p372 q372
                                        cases e372
                                        replace p372:=eq_true p372
                                        replace q372:=eq_true q372
                                        go_wp2
                                        go_roundg k5
                                        case measure=>have:=HJ4.out;have:=HK2.out;have:=HK3.out;have:=HJ66.out;have:=HK5.out;omega
                                        case rel=>exact ⟨(false),(wrap64 (x11_5+1)),(by first|rfl|(simp;done)|(simp [*];done)),(by first|rfl|(simp;done)|(simp [*];done)),H',⟨by have:=HJ4.out;have:=HK2.out;have:=HK3.out;have:=HJ66.out;have:=HK5.out;omega⟩,⟨by (with_reducible repeat (first|apply Kd.V_alloc|apply Kd.V_drewN|apply Kd.V_drew));exact HO_358001.out⟩,⟨by (with_reducible repeat (first|apply Kd.V_alloc|apply Kd.V_drewN|apply Kd.V_drew));exact HO_358002.out⟩,⟨by (with_reducible repeat (first|refine blk_drewN ?_ _|refine blk_drew ?_|refine blk_alloc ?_ _));exact BK357.out⟩,⟨by repeat (first|(with_reducible first|exact HB.out|apply below_alloc|apply pw_below_drewN|apply below_drew1|refine below_set ?_ GE357.out)|exact HB.out)⟩⟩
                                    · rw [if_neg c75] at H
                                      exact absurd H (by simp)
                              · rw [if_neg c70] at H
                                have c70b0:decide (x11_5 < (t353.length:Int))=false:=decide_eq_false c70
                                clear c70
                                replace H:=Option.bind_eq_some_iff.mp H
                                obtain ⟨t376,A830,H⟩:=H
                                replace H:(if x6_2=true then (if (t376==true)=true then (if t358.toList=([]:List UInt8) then (some true) else (some false)) else (some false)) else (if (t376==(decide (x8_3 > 0)))=true then (some x10_5) else (some false)))=some r:=H
                                have A83:=Aside0.mk A830
                                clear A830
                                by_cases c84:x6_2=true
                                · subst c84
                                  have H1:(if (t376==true)=true then (if t358.toList=([]:List UInt8) then (some true) else (some false)) else (some false))=some r:=by rw [if_pos rfl] at H;exact H
                                  clear H
                                  have H:=H1
                                  clear H1
                                  by_cases c85:(t376==true)=true
                                  · rw [if_pos c85] at H
                                    have c85b0:(t376==true)=true:=c85
                                    (try (have c85b1:decide (t376=true)=true:=by simpa using c85))
                                    (try (have c85b2:(t376==true)=true:=by simpa using c85))
                                    clear c85
                                    by_cases c86:t358.toList=([]:List UInt8)
                                    · rw [if_pos c86] at H
                                      have c86b0:(t358.toList==([]:List UInt8))=true:=beq_iff_eq.mpr c86
                                      have c86b1:(t358.toList != ([]:List UInt8))=false:=bne_eq_false_iff_eq.mpr c86
                                      clear c86
                                      obtain rfl:=Option.some.inj H
                                      have hcz87_0:wr.cell? ⟨gb357,0,none⟩=some (.string t349):=(blk_cell BK357.out 0).trans rfl
                                      have hcz87_1:wr.cell? ⟨gb357,1,none⟩=some (.slice Ao9 t350.length co9):=(blk_cell BK357.out 1).trans rfl
                                      have hcz87_2:wr.cell? ⟨gb357,2,none⟩=some (.slice Ao10 t353.length co10):=(blk_cell BK357.out 2).trans rfl
                                      have hfz87_0:=blk_frozen BK357.out 0
                                      have hfz87_1:=blk_frozen BK357.out 1
                                      have hfz87_2:=blk_frozen BK357.out 2
                                      go_wp2_with (first|((with_reducible refine gate_callee (f:=48) rfl ?_);refine goesL_ (some 160) rfl rfl Tryd.func48 (by kernel_rfl) rfl #[.agg #[.string t349,.slice Ao9 t350.length co9,.slice Ao10 t353.length co10],.agg #[.string bz13,.string t356]] rfl (by (try simp only [List.map_toArray,List.map_cons,List.map_nil]);first|done|rfl|(simp only [List.length_drop,List.length_take];rfl)) ?_;(with_reducible refine (impl_ConfTakes.calls k5 t349 _ _ t350 _ _ t353 bz13 t356 t376 _ ?side1 ?side2 ?side3 ?side4 ?side5 A83.out).mono ?_);(case side1=>repeat (first|exact (Kd.V_reads' HO_358001.out).2.2|(with_reducible refine Kd.C_alloc ?_ _)|(with_reducible refine Kd.C_drewN ?_ _)|(with_reducible refine Kd.C_drew ?_)));(case side2=>exact (Kd.V_reads' HO_358001.out).2.1);(case side3=>repeat (first|exact (Kd.V_reads' HO_358002.out).2.2|(with_reducible refine Kd.C_alloc ?_ _)|(with_reducible refine Kd.C_drewN ?_ _)|(with_reducible refine Kd.C_drew ?_)));(case side4=>exact (Kd.V_reads' HO_358002.out).2.1);(case side5=>first|(with_reducible exact HG.out)|((with_reducible repeat (first|exact HG.out|apply GOK.drewN|apply GOK.drew));done)|exact GOK.below HG.out (by repeat (first|(with_reducible first|exact HB.out|apply below_alloc|apply pw_below_drewN|apply below_drew1|refine below_set ?_ GE357.out)|exact HB.out)));rintro e w88 ⟨rfl,hb⟩;refine ⟨_,rfl,?_⟩;have n0_:=Aside0.mk (Kd.V_below (by (with_reducible repeat (first|apply Kd.V_alloc|apply Kd.V_drewN|apply Kd.V_drew));exact HO_358001.out) hb);have n1_:=Aside0.mk (Kd.V_below (by (with_reducible repeat (first|apply Kd.V_alloc|apply Kd.V_drewN|apply Kd.V_drew));exact HO_358002.out) hb);have n2_:=Aside0.mk (blk_below (g:=gb357) (o:=.cells #[.string t349,.slice Ao9 t350.length co9,.slice Ao10 t353.length co10] 56 (0,0)) (by (with_reducible repeat (first|refine blk_drewN ?_ _|refine blk_drew ?_|refine blk_alloc ?_ _));exact BK357.out) hb);have n3_:=Aside0.mk (below_step (by repeat (first|(with_reducible first|exact HB.out|apply below_alloc|apply pw_below_drewN|apply below_drew1|refine below_set ?_ GE357.out)|exact HB.out)) hb);clear HO_358001;clear HO_358002;clear BK357;clear HB;have HO_358001:=n0_;have HO_358002:=n1_;have BK357:=n2_;have HB:=n3_;clear n0_ n1_ n2_ n3_;(try clear hb);(try clear hb2);(try clear hk);(try clear hi)))
                                      go_ret
                                      exact ⟨by first|rfl|(simp [errW_none,errW_some]<;>rfl)|(simp [*,errW_none,errW_some]<;>rfl)|(simp [*,errW_none,errW_some];cases t358.toList<;>rfl),by repeat (first|(with_reducible first|exact HB.out|apply below_alloc|apply pw_below_drewN|apply below_drew1|refine below_set ?_ GE357.out)|exact HB.out)⟩
                                    · rw [if_neg c86] at H
                                      have c86b0:(t358.toList==([]:List UInt8))=false:=beq_eq_false_iff_ne.mpr c86
                                      have c86b1:(t358.toList != ([]:List UInt8))=true:=bne_iff_ne.mpr c86
                                      obtain rfl:=Option.some.inj H
                                      have hcz89_0:wr.cell? ⟨gb357,0,none⟩=some (.string t349):=(blk_cell BK357.out 0).trans rfl
                                      have hcz89_1:wr.cell? ⟨gb357,1,none⟩=some (.slice Ao9 t350.length co9):=(blk_cell BK357.out 1).trans rfl
                                      have hcz89_2:wr.cell? ⟨gb357,2,none⟩=some (.slice Ao10 t353.length co10):=(blk_cell BK357.out 2).trans rfl
                                      have hfz89_0:=blk_frozen BK357.out 0
                                      have hfz89_1:=blk_frozen BK357.out 1
                                      have hfz89_2:=blk_frozen BK357.out 2
                                      go_wp2_with (first|((with_reducible refine gate_callee (f:=48) rfl ?_);refine goesL_ (some 160) rfl rfl Tryd.func48 (by kernel_rfl) rfl #[.agg #[.string t349,.slice Ao9 t350.length co9,.slice Ao10 t353.length co10],.agg #[.string bz13,.string t356]] rfl (by (try simp only [List.map_toArray,List.map_cons,List.map_nil]);first|done|rfl|(simp only [List.length_drop,List.length_take];rfl)) ?_;(with_reducible refine (impl_ConfTakes.calls k5 t349 _ _ t350 _ _ t353 bz13 t356 t376 _ ?side1 ?side2 ?side3 ?side4 ?side5 A83.out).mono ?_);(case side1=>repeat (first|exact (Kd.V_reads' HO_358001.out).2.2|(with_reducible refine Kd.C_alloc ?_ _)|(with_reducible refine Kd.C_drewN ?_ _)|(with_reducible refine Kd.C_drew ?_)));(case side2=>exact (Kd.V_reads' HO_358001.out).2.1);(case side3=>repeat (first|exact (Kd.V_reads' HO_358002.out).2.2|(with_reducible refine Kd.C_alloc ?_ _)|(with_reducible refine Kd.C_drewN ?_ _)|(with_reducible refine Kd.C_drew ?_)));(case side4=>exact (Kd.V_reads' HO_358002.out).2.1);(case side5=>first|(with_reducible exact HG.out)|((with_reducible repeat (first|exact HG.out|apply GOK.drewN|apply GOK.drew));done)|exact GOK.below HG.out (by repeat (first|(with_reducible first|exact HB.out|apply below_alloc|apply pw_below_drewN|apply below_drew1|refine below_set ?_ GE357.out)|exact HB.out)));rintro e w90 ⟨rfl,hb⟩;refine ⟨_,rfl,?_⟩;have n0_:=Aside0.mk (Kd.V_below (by (with_reducible repeat (first|apply Kd.V_alloc|apply Kd.V_drewN|apply Kd.V_drew));exact HO_358001.out) hb);have n1_:=Aside0.mk (Kd.V_below (by (with_reducible repeat (first|apply Kd.V_alloc|apply Kd.V_drewN|apply Kd.V_drew));exact HO_358002.out) hb);have n2_:=Aside0.mk (blk_below (g:=gb357) (o:=.cells #[.string t349,.slice Ao9 t350.length co9,.slice Ao10 t353.length co10] 56 (0,0)) (by (with_reducible repeat (first|refine blk_drewN ?_ _|refine blk_drew ?_|refine blk_alloc ?_ _));exact BK357.out) hb);have n3_:=Aside0.mk (below_step (by repeat (first|(with_reducible first|exact HB.out|apply below_alloc|apply pw_below_drewN|apply below_drew1|refine below_set ?_ GE357.out)|exact HB.out)) hb);clear HO_358001;clear HO_358002;clear BK357;clear HB;have HO_358001:=n0_;have HO_358002:=n1_;have BK357:=n2_;have HB:=n3_;clear n0_ n1_ n2_ n3_;(try clear hb);(try clear hb2);(try clear hk);(try clear hi)))
                                      go_ret
                                      exact ⟨by first|rfl|(simp [errW_none,errW_some]<;>rfl)|(simp [*,errW_none,errW_some]<;>rfl)|(simp [*,errW_none,errW_some];cases t358.toList<;>rfl),by repeat (first|(with_reducible first|exact HB.out|apply below_alloc|apply pw_below_drewN|apply below_drew1|refine below_set ?_ GE357.out)|exact HB.out)⟩
                                  · rw [if_neg c85] at H
                                    have c85b0:(t376==true)=false:=by simpa using c85
                                    (try (have c85b1:decide (t376=true)=false:=by simpa using c85))
                                    (try (have c85b2:(t376==true)=false:=by simpa using c85))
                                    (try (have c85b3:¬ (t376=true):=by simpa using c85))
                                    clear c85
                                    obtain rfl:=Option.some.inj H
                                    have hcz91_0:wr.cell? ⟨gb357,0,none⟩=some (.string t349):=(blk_cell BK357.out 0).trans rfl
                                    have hcz91_1:wr.cell? ⟨gb357,1,none⟩=some (.slice Ao9 t350.length co9):=(blk_cell BK357.out 1).trans rfl
                                    have hcz91_2:wr.cell? ⟨gb357,2,none⟩=some (.slice Ao10 t353.length co10):=(blk_cell BK357.out 2).trans rfl
                                    have hfz91_0:=blk_frozen BK357.out 0
                                    have hfz91_1:=blk_frozen BK357.out 1
                                    have hfz91_2:=blk_frozen BK357.out 2
                                    go_wp2_with (first|((with_reducible refine gate_callee (f:=48) rfl ?_);refine goesL_ (some 160) rfl rfl Tryd.func48 (by kernel_rfl) rfl #[.agg #[.string t349,.slice Ao9 t350.length co9,.slice Ao10 t353.length co10],.agg #[.string bz13,.string t356]] rfl (by (try simp only [List.map_toArray,List.map_cons,List.map_nil]);first|done|rfl|(simp only [List.length_drop,List.length_take];rfl)) ?_;(with_reducible refine (impl_ConfTakes.calls k5 t349 _ _ t350 _ _ t353 bz13 t356 t376 _ ?side1 ?side2 ?side3 ?side4 ?side5 A83.out).mono ?_);(case side1=>repeat (first|exact (Kd.V_reads' HO_358001.out).2.2|(with_reducible refine Kd.C_alloc ?_ _)|(with_reducible refine Kd.C_drewN ?_ _)|(with_reducible refine Kd.C_drew ?_)));(case side2=>exact (Kd.V_reads' HO_358001.out).2.1);(case side3=>repeat (first|exact (Kd.V_reads' HO_358002.out).2.2|(with_reducible refine Kd.C_alloc ?_ _)|(with_reducible refine Kd.C_drewN ?_ _)|(with_reducible refine Kd.C_drew ?_)));(case side4=>exact (Kd.V_reads' HO_358002.out).2.1);(case side5=>first|(with_reducible exact HG.out)|((with_reducible repeat (first|exact HG.out|apply GOK.drewN|apply GOK.drew));done)|exact GOK.below HG.out (by repeat (first|(with_reducible first|exact HB.out|apply below_alloc|apply pw_below_drewN|apply below_drew1|refine below_set ?_ GE357.out)|exact HB.out)));rintro e w92 ⟨rfl,hb⟩;refine ⟨_,rfl,?_⟩;have n0_:=Aside0.mk (Kd.V_below (by (with_reducible repeat (first|apply Kd.V_alloc|apply Kd.V_drewN|apply Kd.V_drew));exact HO_358001.out) hb);have n1_:=Aside0.mk (Kd.V_below (by (with_reducible repeat (first|apply Kd.V_alloc|apply Kd.V_drewN|apply Kd.V_drew));exact HO_358002.out) hb);have n2_:=Aside0.mk (blk_below (g:=gb357) (o:=.cells #[.string t349,.slice Ao9 t350.length co9,.slice Ao10 t353.length co10] 56 (0,0)) (by (with_reducible repeat (first|refine blk_drewN ?_ _|refine blk_drew ?_|refine blk_alloc ?_ _));exact BK357.out) hb);have n3_:=Aside0.mk (below_step (by repeat (first|(with_reducible first|exact HB.out|apply below_alloc|apply pw_below_drewN|apply below_drew1|refine below_set ?_ GE357.out)|exact HB.out)) hb);clear HO_358001;clear HO_358002;clear BK357;clear HB;have HO_358001:=n0_;have HO_358002:=n1_;have BK357:=n2_;have HB:=n3_;clear n0_ n1_ n2_ n3_;(try clear hb);(try clear hb2);(try clear hk);(try clear hi)))
                                    go_ret
                                    exact ⟨by first|rfl|(simp [errW_none,errW_some]<;>rfl)|(simp [*,errW_none,errW_some]<;>rfl)|(simp [*,errW_none,errW_some];cases t358.toList<;>rfl),by repeat (first|(with_reducible first|exact HB.out|apply below_alloc|apply pw_below_drewN|apply below_drew1|refine below_set ?_ GE357.out)|exact HB.out)⟩
                                · replace c84:=Bool.eq_false_iff.mpr c84
                                  subst c84
                                  have H1:(if (t376==(decide (x8_3 > 0)))=true then (some x10_5) else (some false))=some r:=by rw [if_neg (show ¬ (false=true) by decide)] at H;exact H
                                  clear H
                                  have H:=H1
                                  clear H1
                                  by_cases c93:(t376==(decide (x8_3 > 0)))=true
                                  · rw [if_pos c93] at H
                                    have c93b0:(t376==(decide (x8_3 > 0)))=true:=c93
                                    (try (have c93b1:decide (t376=(decide (x8_3 > 0)))=true:=by simpa using c93))
                                    (try (have c93b2:(t376==(decide (x8_3 > 0)))=true:=by simpa using c93))
                                    clear c93
                                    obtain rfl:=Option.some.inj H
                                    have hcz94_0:wr.cell? ⟨gb357,0,none⟩=some (.string t349):=(blk_cell BK357.out 0).trans rfl
                                    have hcz94_1:wr.cell? ⟨gb357,1,none⟩=some (.slice Ao9 t350.length co9):=(blk_cell BK357.out 1).trans rfl
                                    have hcz94_2:wr.cell? ⟨gb357,2,none⟩=some (.slice Ao10 t353.length co10):=(blk_cell BK357.out 2).trans rfl
                                    have hfz94_0:=blk_frozen BK357.out 0
                                    have hfz94_1:=blk_frozen BK357.out 1
                                    have hfz94_2:=blk_frozen BK357.out 2
                                    go_wp2_with (first|((with_reducible refine gate_callee (f:=48) rfl ?_);refine goesL_ (some 160) rfl rfl Tryd.func48 (by kernel_rfl) rfl #[.agg #[.string t349,.slice Ao9 t350.length co9,.slice Ao10 t353.length co10],.agg #[.string bz13,.string t356]] rfl (by (try simp only [List.map_toArray,List.map_cons,List.map_nil]);first|done|rfl|(simp only [List.length_drop,List.length_take];rfl)) ?_;(with_reducible refine (impl_ConfTakes.calls k5 t349 _ _ t350 _ _ t353 bz13 t356 t376 _ ?side1 ?side2 ?side3 ?side4 ?side5 A83.out).mono ?_);(case side1=>repeat (first|exact (Kd.V_reads' HO_358001.out).2.2|(with_reducible refine Kd.C_alloc ?_ _)|(with_reducible refine Kd.C_drewN ?_ _)|(with_reducible refine Kd.C_drew ?_)));(case side2=>exact (Kd.V_reads' HO_358001.out).2.1);(case side3=>repeat (first|exact (Kd.V_reads' HO_358002.out).2.2|(with_reducible refine Kd.C_alloc ?_ _)|(with_reducible refine Kd.C_drewN ?_ _)|(with_reducible refine Kd.C_drew ?_)));(case side4=>exact (Kd.V_reads' HO_358002.out).2.1);(case side5=>first|(with_reducible exact HG.out)|((with_reducible repeat (first|exact HG.out|apply GOK.drewN|apply GOK.drew));done)|exact GOK.below HG.out (by repeat (first|(with_reducible first|exact HB.out|apply below_alloc|apply pw_below_drewN|apply below_drew1|refine below_set ?_ GE357.out)|exact HB.out)));rintro e w95 ⟨rfl,hb⟩;refine ⟨_,rfl,?_⟩;have n0_:=Aside0.mk (Kd.V_below (by (with_reducible repeat (first|apply Kd.V_alloc|apply Kd.V_drewN|apply Kd.V_drew));exact HO_358001.out) hb);have n1_:=Aside0.mk (Kd.V_below (by (with_reducible repeat (first|apply Kd.V_alloc|apply Kd.V_drewN|apply Kd.V_drew));exact HO_358002.out) hb);have n2_:=Aside0.mk (blk_below (g:=gb357) (o:=.cells #[.string t349,.slice Ao9 t350.length co9,.slice Ao10 t353.length co10] 56 (0,0)) (by (with_reducible repeat (first|refine blk_drewN ?_ _|refine blk_drew ?_|refine blk_alloc ?_ _));exact BK357.out) hb);have n3_:=Aside0.mk (below_step (by repeat (first|(with_reducible first|exact HB.out|apply below_alloc|apply pw_below_drewN|apply below_drew1|refine below_set ?_ GE357.out)|exact HB.out)) hb);clear HO_358001;clear HO_358002;clear BK357;clear HB;have HO_358001:=n0_;have HO_358002:=n1_;have BK357:=n2_;have HB:=n3_;clear n0_ n1_ n2_ n3_;(try clear hb);(try clear hb2);(try clear hk);(try clear hi)))
                                    go_ret
                                    exact ⟨by first|rfl|(simp [errW_none,errW_some]<;>rfl)|(simp [*,errW_none,errW_some]<;>rfl)|(simp [*,errW_none,errW_some];cases t358.toList<;>rfl),by repeat (first|(with_reducible first|exact HB.out|apply below_alloc|apply pw_below_drewN|apply below_drew1|refine below_set ?_ GE357.out)|exact HB.out)⟩
                                  · rw [if_neg c93] at H
                                    have c93b0:(t376==(decide (x8_3 > 0)))=false:=by simpa using c93
                                    (try (have c93b1:decide (t376=(decide (x8_3 > 0)))=false:=by simpa using c93))
                                    (try (have c93b2:(t376==(decide (x8_3 > 0)))=false:=by simpa using c93))
                                    (try (have c93b3:¬ (t376=(decide (x8_3 > 0))):=by simpa using c93))
                                    clear c93
                                    obtain rfl:=Option.some.inj H
                                    have hcz96_0:wr.cell? ⟨gb357,0,none⟩=some (.string t349):=(blk_cell BK357.out 0).trans rfl
                                    have hcz96_1:wr.cell? ⟨gb357,1,none⟩=some (.slice Ao9 t350.length co9):=(blk_cell BK357.out 1).trans rfl
                                    have hcz96_2:wr.cell? ⟨gb357,2,none⟩=some (.slice Ao10 t353.length co10):=(blk_cell BK357.out 2).trans rfl
                                    have hfz96_0:=blk_frozen BK357.out 0
                                    have hfz96_1:=blk_frozen BK357.out 1
                                    have hfz96_2:=blk_frozen BK357.out 2
                                    go_wp2_with (first|((with_reducible refine gate_callee (f:=48) rfl ?_);refine goesL_ (some 160) rfl rfl Tryd.func48 (by kernel_rfl) rfl #[.agg #[.string t349,.slice Ao9 t350.length co9,.slice Ao10 t353.length co10],.agg #[.string bz13,.string t356]] rfl (by (try simp only [List.map_toArray,List.map_cons,List.map_nil]);first|done|rfl|(simp only [List.length_drop,List.length_take];rfl)) ?_;(with_reducible refine (impl_ConfTakes.calls k5 t349 _ _ t350 _ _ t353 bz13 t356 t376 _ ?side1 ?side2 ?side3 ?side4 ?side5 A83.out).mono ?_);(case side1=>repeat (first|exact (Kd.V_reads' HO_358001.out).2.2|(with_reducible refine Kd.C_alloc ?_ _)|(with_reducible refine Kd.C_drewN ?_ _)|(with_reducible refine Kd.C_drew ?_)));(case side2=>exact (Kd.V_reads' HO_358001.out).2.1);(case side3=>repeat (first|exact (Kd.V_reads' HO_358002.out).2.2|(with_reducible refine Kd.C_alloc ?_ _)|(with_reducible refine Kd.C_drewN ?_ _)|(with_reducible refine Kd.C_drew ?_)));(case side4=>exact (Kd.V_reads' HO_358002.out).2.1);(case side5=>first|(with_reducible exact HG.out)|((with_reducible repeat (first|exact HG.out|apply GOK.drewN|apply GOK.drew));done)|exact GOK.below HG.out (by repeat (first|(with_reducible first|exact HB.out|apply below_alloc|apply pw_below_drewN|apply below_drew1|refine below_set ?_ GE357.out)|exact HB.out)));rintro e w97 ⟨rfl,hb⟩;refine ⟨_,rfl,?_⟩;have n0_:=Aside0.mk (Kd.V_below (by (with_reducible repeat (first|apply Kd.V_alloc|apply Kd.V_drewN|apply Kd.V_drew));exact HO_358001.out) hb);have n1_:=Aside0.mk (Kd.V_below (by (with_reducible repeat (first|apply Kd.V_alloc|apply Kd.V_drewN|apply Kd.V_drew));exact HO_358002.out) hb);have n2_:=Aside0.mk (blk_below (g:=gb357) (o:=.cells #[.string t349,.slice Ao9 t350.length co9,.slice Ao10 t353.length co10] 56 (0,0)) (by (with_reducible repeat (first|refine blk_drewN ?_ _|refine blk_drew ?_|refine blk_alloc ?_ _));exact BK357.out) hb);have n3_:=Aside0.mk (below_step (by repeat (first|(with_reducible first|exact HB.out|apply below_alloc|apply pw_below_drewN|apply below_drew1|refine below_set ?_ GE357.out)|exact HB.out)) hb);clear HO_358001;clear HO_358002;clear BK357;clear HB;have HO_358001:=n0_;have HO_358002:=n1_;have BK357:=n2_;have HB:=n3_;clear n0_ n1_ n2_ n3_;(try clear hb);(try clear hb2);(try clear hk);(try clear hi)))
                                    go_ret
                                    exact ⟨by first|rfl|(simp [errW_none,errW_some]<;>rfl)|(simp [*,errW_none,errW_some]<;>rfl)|(simp [*,errW_none,errW_some];cases t358.toList<;>rfl),by repeat (first|(with_reducible first|exact HB.out|apply below_alloc|apply pw_below_drewN|apply below_drew1|refine below_set ?_ GE357.out)|exact HB.out)⟩
end Go.Proofs.YtpeefjfklklhdaaDoor.Q
