/- Of a text of ours what this claim needs. -/
import Derived.Test.YtpeefjfklklhdaaDoorZzFnWayWQ0
import Derived.Test.YtpeefjfklklhdaaDoorZzFnWayWQ2
import Derived.Test.YtpeefjfklklhdaaDoorZzFnWayWQ3
import Derived.Test.YtpeefjfklklhdaaDoorZzFnWayWQ5
import Derived.Test.YtpeefjfklklhdaaDoorZzFnWayWQ16
import Derived.Test.YtpeefjfklklhdaaDoorZzFnWayWQ22
import Derived.Test.YtpeefjfklklhdaaDoorZzFnWayWQ24
import Derived.Test.YtpeefjfklklhdaaDoorZzFnWayWQ32
import Derived.Test.YtpeefjfklklhdaaDoorZzFnWayWQ33
import Derived.Test.YtpeefjfklklhdaaDoorZzFnWayWQ34
import Derived.Test.YtpeefjfklklhdaaDoorZzFnWayWHSplit
namespace Go.Proofs.YtpeefjfklklhdaaDoor.Q
open Go.RowKit Go.Proofs.YtpeefjfklklhdaaDoorW.PrintWords Go.Proofs.YtpeefjfklklhdaaDoorW.PrintLast Go.Proofs.YtpeefjfklklhdaaDoorW.PrintMore
attribute [local go_sem] max2_int min2_int max_two min_two max_three min_three max_four min_four
set_option linter.unusedVariables false
set_option linter.unusedSimpArgs false
def spec_DrawWayOf.f (k:Nat) (l0:List Int):Option (ByteArray × List ByteArray × (List (S69)) × ByteArray):=(spec_l20Open.f l0).bind fun bt345=>((spec_l20AnyConf.f k bt345.1 bt345.2).bind fun bt348=>((spec_l20AnyAddr.f k bt345.1 bt348.2.2.2).bind fun bt357=>(some (bt348.1,bt348.2.1,bt348.2.2.1,bt357.2.1))))
set_option maxHeartbeats 8000000 in
set_option maxRecDepth 100000 in
theorem spec_DrawWayOf.calls (k:Nat) (A0:Option Addr) (c0:Nat) (l0:List Int) (r1:ByteArray) (r2:List ByteArray) (r3:List (S69)) (r4:ByteArray) (w:World) (hr0:Kd.C (Kd.int .u8) w A0 l0.length l0) (hc0:l0.length≤c0) (h:spec_DrawWayOf.f k l0=some (r1,r2,r3,r4)) :
    Calls Tryd.prog 50 #[.slice A0 l0.length c0] w fun e w'=>∃ v1_ v2_:Value,e=.returned (.tuple #[.agg #[.string r1,v1_,v2_],.string r4])∧Kd.V Kd.string 9 w' w.heap.size (fun k_=>(w.heap.size≤k_)) v1_ r2∧Kd.V k69 69 w' w.heap.size (fun k_=>(w.heap.size≤k_)) v2_ r3∧Below w.heap.size w w':=by
  have hu56:=Tryd.underlying56
  have hfd32_1:∀ (v0_ v1_:Value) (w_:World),(Instr.field 32 (.agg #[v0_,v1_]) 1).run Tryd.prog w_=.ok v1_ w_:=fun _ _ _=>by kernel_rfl
  have HR0:=Aside0.mk hr0
  have HC0:=Aside0.mk hc0
  clear hr0 hc0
  have HB:=Aside0.mk (Below.refl w.heap.size w)
  have H:((spec_l20Open.f l0).bind fun bt345=>((spec_l20AnyConf.f k bt345.1 bt345.2).bind fun bt348=>((spec_l20AnyAddr.f k bt345.1 bt348.2.2.2).bind fun bt357=>(some (bt348.1,bt348.2.1,bt348.2.2.1,bt357.2.1)))))=some (r1,r2,r3,r4):=h
  clear h
  replace H:=Option.bind_eq_some_iff.mp H
  obtain ⟨⟨t345,t346⟩,A20,H⟩:=H
  replace H:((spec_l20AnyConf.f k t345 t346).bind fun bt348=>((spec_l20AnyAddr.f k t345 bt348.2.2.2).bind fun bt357=>(some (bt348.1,bt348.2.1,bt348.2.2.1,bt357.2.1))))=some (r1,r2,r3,r4):=H
  have A2:=Aside0.mk A20
  clear A20
  replace H:=Option.bind_eq_some_iff.mp H
  obtain ⟨⟨t348,t349,t352,t355⟩,A30,H⟩:=H
  replace H:((spec_l20AnyAddr.f k t345 t355).bind fun bt357=>(some (t348,t349,t352,bt357.2.1)))=some (r1,r2,r3,r4):=H
  have A3:=Aside0.mk A30
  clear A30
  replace H:=Option.bind_eq_some_iff.mp H
  obtain ⟨⟨t357,t358,t359⟩,A40,H⟩:=H
  replace H:(some (t348,t349,t352,t358))=some (r1,r2,r3,r4):=H
  have A4:=Aside0.mk A40
  clear A40
  simp only [Option.some.injEq,Prod.mk.injEq] at H
  obtain ⟨rfl,rfl,rfl,rfl⟩:=H
  go_enter Tryd.func50,Tryd.ntmps50
  try go_wp2_with (first|((with_reducible refine gate_dst (N:=2) rfl ?_);refine box_event ?hg (N:=2) ?hd (cs:=#[.string bz3,.slice none 0 0,.slice none 0 0]) (t:=56) ?hr ?_;(case hd=>rfl);(case hg=>rfl);(case hr=>first|(go_simp;done)|(go_simp;rfl));intro gb344 hg w5 hbox hb;have n0_:=Aside0.mk (below_step (by repeat (first|(with_reducible first|exact HB.out|apply below_alloc|apply pw_below_drewN|apply below_drew1)|exact HB.out)) hb);have n1_:=Aside0.mk (hbox);have n2_:=Aside0.mk ((by rw [hg];exact (below_size (by repeat (first|(with_reducible first|exact HB.out|apply below_alloc|apply pw_below_drewN|apply below_drew1)|exact HB.out))):w.heap.size≤gb344));have n3_:=Aside0.mk ((by rw [hg];exact (below_size (by repeat (first|(with_reducible first|exact HB.out|apply below_alloc|apply pw_below_drewN|apply below_drew1)|exact HB.out))):w.heap.size≤gb344));clear HB;have HB:=n0_;have BK344:=n1_;have GW344:=n2_;have GE344:=n3_;clear n0_ n1_ n2_ n3_;clear hb hbox hg)|((with_reducible refine gate_callee (f:=56) rfl ?_);refine goesL_ (some 7) rfl rfl Tryd.func56 (by kernel_rfl) rfl #[.slice A0 l0.length c0] rfl (by (try simp only [List.map_toArray,List.map_cons,List.map_nil]);first|done|rfl|(simp only [List.length_drop,List.length_take];rfl)) ?_;(with_reducible refine (spec_l20Open.calls _ _ l0 t345 t346 w _ ?side1 ?side2 ?side3 A2.out).mono ?_);(case side1=>repeat (first|(with_reducible first|exact HB.out|apply below_alloc|apply pw_below_drewN|apply below_drew1|refine below_set ?_ GE344.out)|exact HB.out));(case side2=>exact HR0.out);(case side3=>exact HC0.out);rintro e w6 ⟨g347,rfl,hi,hb,hb2⟩;refine ⟨_,rfl,?_⟩;have n0_:=Aside0.mk (blk_below (g:=gb344) (o:=.cells #[.string bz3,.slice none 0 0,.slice none 0 0] 56 (0,0)) (by (with_reducible repeat (first|refine blk_drewN ?_ _|refine blk_drew ?_|refine blk_alloc ?_ _));exact BK344.out) hb2);have n1_:=Aside0.mk (hb);have n2_:=Aside0.mk (hi);have n3_:=Aside0.mk (IsS102.ne_blk hi (blk_below (g:=gb344) (o:=.cells #[.string bz3,.slice none 0 0,.slice none 0 0] 56 (0,0)) (by (with_reducible repeat (first|refine blk_drewN ?_ _|refine blk_drew ?_|refine blk_alloc ?_ _));exact BK344.out) hb2) (by decide));have n4_:=Aside0.mk (Ne.symm (IsS102.ne_blk hi (blk_below (g:=gb344) (o:=.cells #[.string bz3,.slice none 0 0,.slice none 0 0] 56 (0,0)) (by (with_reducible repeat (first|refine blk_drewN ?_ _|refine blk_drew ?_|refine blk_alloc ?_ _));exact BK344.out) hb2) (by decide)));clear BK344;clear HB;have BK344:=n0_;have HB:=n1_;have HI347:=n2_;have NB347_344:=n3_;have NB344_347:=n4_;clear n0_ n1_ n2_ n3_ n4_;(try clear hb);(try clear hb2);(try clear hk);(try clear hi))|((with_reducible refine gate_callee (f:=90) rfl ?_);refine goesL_ (some 9) rfl rfl Tryd.func90 (by kernel_rfl) rfl #[.pointer (some ⟨g347,0,none⟩)] rfl (by (try simp only [List.map_toArray,List.map_cons,List.map_nil]);first|done|rfl|(simp only [List.length_drop,List.length_take];rfl)) ?_;(with_reducible refine (spec_l20AnyConf.calls k g347 t345 t346 t348 t349 t352 t355 w _ ?side1 ?side2 A3.out).mono ?_);(case side1=>repeat (first|(with_reducible first|exact HI347.out|apply IsS102.alloc|apply IsS102.drewN|apply IsS102.drew|apply IsS102.set_1|refine IsS102.far ?_ NB347_344.out _)|exact HI347.out));(case side2=>repeat (first|(with_reducible first|exact HB.out|apply below_alloc|apply pw_below_drewN|apply below_drew1|refine below_set ?_ (IsS102.ge HI347.out)|refine below_set ?_ GE344.out)|exact HB.out));rintro e w7 ⟨v350,v353,rfl,ho0,ho1,hi,hb,hk⟩;refine ⟨_,rfl,?_⟩;have n0_:=Aside0.mk (KeepBut.blk hk (g':=gb344) (o:=.cells #[.string bz3,.slice none 0 0,.slice none 0 0] 56 (0,0)) (by (with_reducible repeat (first|refine blk_drewN ?_ _|refine blk_drew ?_|refine blk_alloc ?_ _));exact BK344.out) NB344_347.out (by simp));have n1_:=Aside0.mk (Kd.V_lower (Kd.V_mono (ok':=fun k_=>(w.heap.size≤k_)∧k_≠gb344∧k_≠g347) ho0 (fun k_ hk_=>⟨(Nat.le_trans (below_size (by repeat (first|(with_reducible first|exact HB.out|apply below_alloc|apply pw_below_drewN|apply below_drew1|refine below_set ?_ (IsS102.ge HI347.out)|refine below_set ?_ GE344.out)|exact HB.out))) hk_),(Kd.freshB (g:=gb344) (o:=.cells #[.string bz3,.slice none 0 0,.slice none 0 0] 56 (0,0)) (by (with_reducible repeat (first|refine blk_drewN ?_ _|refine blk_drew ?_|refine blk_alloc ?_ _));exact BK344.out) k_ hk_),(IsS102.fresh (by repeat (first|(with_reducible first|exact HI347.out|apply IsS102.alloc|apply IsS102.drewN|apply IsS102.drew|apply IsS102.set_1|refine IsS102.far ?_ NB347_344.out _)|exact HI347.out)) k_ hk_)⟩)) (below_size (by repeat (first|(with_reducible first|exact HB.out|apply below_alloc|apply pw_below_drewN|apply below_drew1|refine below_set ?_ (IsS102.ge HI347.out)|refine below_set ?_ GE344.out)|exact HB.out))));have n2_:=Aside0.mk (Kd.V_lower (Kd.V_mono (ok':=fun k_=>(w.heap.size≤k_)∧k_≠gb344∧k_≠g347) ho1 (fun k_ hk_=>⟨(Nat.le_trans (below_size (by repeat (first|(with_reducible first|exact HB.out|apply below_alloc|apply pw_below_drewN|apply below_drew1|refine below_set ?_ (IsS102.ge HI347.out)|refine below_set ?_ GE344.out)|exact HB.out))) hk_),(Kd.freshB (g:=gb344) (o:=.cells #[.string bz3,.slice none 0 0,.slice none 0 0] 56 (0,0)) (by (with_reducible repeat (first|refine blk_drewN ?_ _|refine blk_drew ?_|refine blk_alloc ?_ _));exact BK344.out) k_ hk_),(IsS102.fresh (by repeat (first|(with_reducible first|exact HI347.out|apply IsS102.alloc|apply IsS102.drewN|apply IsS102.drew|apply IsS102.set_1|refine IsS102.far ?_ NB347_344.out _)|exact HI347.out)) k_ hk_)⟩)) (below_size (by repeat (first|(with_reducible first|exact HB.out|apply below_alloc|apply pw_below_drewN|apply below_drew1|refine below_set ?_ (IsS102.ge HI347.out)|refine below_set ?_ GE344.out)|exact HB.out))));have n3_:=Aside0.mk (hb);have n4_:=Aside0.mk (hi);clear BK344;clear HB;clear HI347;have BK344:=n0_;have HO351:=n1_;have HO354:=n2_;have HB:=n3_;have HI347:=n4_;clear n0_ n1_ n2_ n3_ n4_;(try clear hb);(try clear hb2);(try clear hk);(try clear hi);(try clear ho0);(try clear ho1))|((with_reducible refine gate_dst (N:=5) rfl ?_);refine box_event ?hg (N:=5) ?hd (cs:=#[.string bz3,.slice none 0 0,.slice none 0 0]) (t:=56) ?hr ?_;(case hd=>rfl);(case hg=>rfl);(case hr=>first|(go_simp;done)|(go_simp;rfl));intro gb356 hg w8 hbox hb;have n0_:=Aside0.mk (Kd.V_below (Kd.V_elderB (by (with_reducible repeat (first|apply Kd.V_alloc|apply Kd.V_drewN|apply Kd.V_drew));exact HO351.out) gb356 (Nat.le_of_eq hg.symm)) hb);have n1_:=Aside0.mk (Kd.V_below (Kd.V_elderB (by (with_reducible repeat (first|apply Kd.V_alloc|apply Kd.V_drewN|apply Kd.V_drew));exact HO354.out) gb356 (Nat.le_of_eq hg.symm)) hb);have n2_:=Aside0.mk (blk_below (g:=gb344) (o:=.cells #[.string bz3,.slice none 0 0,.slice none 0 0] 56 (0,0)) (by (with_reducible repeat (first|refine blk_drewN ?_ _|refine blk_drew ?_|refine blk_alloc ?_ _));exact BK344.out) hb);have n3_:=Aside0.mk (IsS102.below (by repeat (first|(with_reducible first|exact HI347.out|apply IsS102.alloc|apply IsS102.drewN|apply IsS102.drew|apply IsS102.set_1|refine IsS102.far ?_ NB347_344.out _)|exact HI347.out)) hb);have n4_:=Aside0.mk (below_step (by repeat (first|(with_reducible first|exact HB.out|apply below_alloc|apply pw_below_drewN|apply below_drew1|refine below_set ?_ (IsS102.ge HI347.out)|refine below_set ?_ GE344.out)|exact HB.out)) hb);have n5_:=Aside0.mk (hbox);have n6_:=Aside0.mk ((by rw [hg];exact (below_size (by repeat (first|(with_reducible first|exact HB.out|apply below_alloc|apply pw_below_drewN|apply below_drew1|refine below_set ?_ (IsS102.ge HI347.out)|refine below_set ?_ GE344.out)|exact HB.out))):w.heap.size≤gb356));have n7_:=Aside0.mk ((by rw [hg];exact (below_size (by repeat (first|(with_reducible first|exact HB.out|apply below_alloc|apply pw_below_drewN|apply below_drew1|refine below_set ?_ (IsS102.ge HI347.out)|refine below_set ?_ GE344.out)|exact HB.out))):w.heap.size≤gb356));have n8_:=Aside0.mk ((by rw [hg];exact Nat.ne_of_lt (blk_lt (g:=gb344) (o:=.cells #[.string bz3,.slice none 0 0,.slice none 0 0] 56 (0,0)) (by (with_reducible repeat (first|refine blk_drewN ?_ _|refine blk_drew ?_|refine blk_alloc ?_ _));exact BK344.out)):gb344≠gb356));have n9_:=Aside0.mk ((by rw [hg];exact Nat.ne_of_gt (blk_lt (g:=gb344) (o:=.cells #[.string bz3,.slice none 0 0,.slice none 0 0] 56 (0,0)) (by (with_reducible repeat (first|refine blk_drewN ?_ _|refine blk_drew ?_|refine blk_alloc ?_ _));exact BK344.out)):gb356≠gb344));have n10_:=Aside0.mk ((by rw [hg];exact Nat.ne_of_lt (IsS102.lt (show IsS102 w _ g347 t345 t355 from by repeat (first|(with_reducible first|exact HI347.out|apply IsS102.alloc|apply IsS102.drewN|apply IsS102.drew|apply IsS102.set_1|refine IsS102.far ?_ NB347_344.out _)|exact HI347.out))):g347≠gb356));have n11_:=Aside0.mk ((by rw [hg];exact Nat.ne_of_gt (IsS102.lt (show IsS102 w _ g347 t345 t355 from by repeat (first|(with_reducible first|exact HI347.out|apply IsS102.alloc|apply IsS102.drewN|apply IsS102.drew|apply IsS102.set_1|refine IsS102.far ?_ NB347_344.out _)|exact HI347.out))):gb356≠g347));clear HO351;clear HO354;clear BK344;clear HI347;clear HB;have HO351:=n0_;have HO354:=n1_;have BK344:=n2_;have HI347:=n3_;have HB:=n4_;have BK356:=n5_;have GW356:=n6_;have GE356:=n7_;have NB344_356:=n8_;have NB356_344:=n9_;have NB347_356:=n10_;have NB356_347:=n11_;clear n0_ n1_ n2_ n3_ n4_ n5_ n6_ n7_ n8_ n9_ n10_ n11_;clear hb hbox hg;have hnb9:=NB356_344.out;have hnc9:=NB344_356.out;have hnb10:=NB356_347.out;have hnc10:=NB347_356.out;have hcz11_0:w8.cell? ⟨gb356,0,none⟩=some (.string bz3):=(blk_cell BK356.out 0).trans rfl;have hcz11_1:w8.cell? ⟨gb356,1,none⟩=some (.slice none 0 0):=(blk_cell BK356.out 1).trans rfl;have hcz11_2:w8.cell? ⟨gb356,2,none⟩=some (.slice none 0 0):=(blk_cell BK356.out 2).trans rfl;have hfz11_0:=blk_frozen BK356.out 0;have hfz11_1:=blk_frozen BK356.out 1;have hfz11_2:=blk_frozen BK356.out 2;obtain ⟨Ao12,co12,eo12⟩:=Kd.V_slice HO351.out;subst eo12;obtain ⟨Ao13,co13,eo13⟩:=Kd.V_slice HO354.out;subst eo13))
  have n0_:Aside0 (Kd.V Kd.string 9 (((w8.setCell ⟨gb356,0,none⟩ (.string t348)).setCell ⟨gb356,1,none⟩ (.slice Ao12 t349.length co12)).setCell ⟨gb356,2,none⟩ (.slice Ao13 t352.length co13)) w.heap.size (fun k_=>(w.heap.size≤k_)∧k_≠gb344∧k_≠g347∧k_≠gb356) (.slice Ao12 t349.length co12) t349):=⟨by (with_reducible repeat (first|apply Kd.V_alloc|apply Kd.V_drewN|apply Kd.V_drew));exact Kd.V_mono (Kd.V_far (p:=⟨gb356,2,none⟩) (Kd.V_far (p:=⟨gb356,1,none⟩) (Kd.V_far (p:=⟨gb356,0,none⟩) (Kd.V_mono HO351.out (fun k_ hk=>(⟨hk,hk.2⟩:_∧k_≠gb356))) (fun _ hk=>hk.2) (.string t348)) (fun _ hk=>hk.2) (.slice Ao12 t349.length co12)) (fun _ hk=>hk.2) (.slice Ao13 t352.length co13)) (fun _ hk=>⟨hk.1.1.1,⟨hk.1.1.2.1,⟨hk.1.1.2.2,hk.1.2⟩⟩⟩)⟩
  have n1_:Aside0 (Kd.V k69 69 (((w8.setCell ⟨gb356,0,none⟩ (.string t348)).setCell ⟨gb356,1,none⟩ (.slice Ao12 t349.length co12)).setCell ⟨gb356,2,none⟩ (.slice Ao13 t352.length co13)) w.heap.size (fun k_=>(w.heap.size≤k_)∧k_≠gb344∧k_≠g347∧k_≠gb356) (.slice Ao13 t352.length co13) t352):=⟨by (with_reducible repeat (first|apply Kd.V_alloc|apply Kd.V_drewN|apply Kd.V_drew));exact Kd.V_mono (Kd.V_far (p:=⟨gb356,2,none⟩) (Kd.V_far (p:=⟨gb356,1,none⟩) (Kd.V_far (p:=⟨gb356,0,none⟩) (Kd.V_mono HO354.out (fun k_ hk=>(⟨hk,hk.2⟩:_∧k_≠gb356))) (fun _ hk=>hk.2) (.string t348)) (fun _ hk=>hk.2) (.slice Ao12 t349.length co12)) (fun _ hk=>hk.2) (.slice Ao13 t352.length co13)) (fun _ hk=>⟨hk.1.1.1,⟨hk.1.1.2.1,⟨hk.1.1.2.2,hk.1.2⟩⟩⟩)⟩
  have n2_:Aside0 ((((w8.setCell ⟨gb356,0,none⟩ (.string t348)).setCell ⟨gb356,1,none⟩ (.slice Ao12 t349.length co12)).setCell ⟨gb356,2,none⟩ (.slice Ao13 t352.length co13)).heap[gb344]?=some (.cells #[.string bz3,.slice none 0 0,.slice none 0 0] 56 (0,0))):=⟨by (with_reducible repeat (first|refine blk_drewN ?_ _|refine blk_drew ?_|refine blk_alloc ?_ _));refine blk_far ?_ NB344_356.out _;(with_reducible repeat (first|refine blk_drewN ?_ _|refine blk_drew ?_|refine blk_alloc ?_ _));refine blk_far ?_ NB344_356.out _;(with_reducible repeat (first|refine blk_drewN ?_ _|refine blk_drew ?_|refine blk_alloc ?_ _));refine blk_far ?_ NB344_356.out _;(with_reducible repeat (first|refine blk_drewN ?_ _|refine blk_drew ?_|refine blk_alloc ?_ _));exact BK344.out⟩
  have n3_:Aside0 ((((w8.setCell ⟨gb356,0,none⟩ (.string t348)).setCell ⟨gb356,1,none⟩ (.slice Ao12 t349.length co12)).setCell ⟨gb356,2,none⟩ (.slice Ao13 t352.length co13)).heap[gb356]?=some (.cells #[.string t348,.slice Ao12 t349.length co12,.slice Ao13 t352.length co13] 56 (0,0))):=⟨by (with_reducible repeat (first|refine blk_drewN ?_ _|refine blk_drew ?_|refine blk_alloc ?_ _));refine blk_put (cs:=#[.string t348,.slice Ao12 t349.length co12,.slice none 0 0]) ?_ 2 _ rfl;(with_reducible repeat (first|refine blk_drewN ?_ _|refine blk_drew ?_|refine blk_alloc ?_ _));refine blk_put (cs:=#[.string t348,.slice none 0 0,.slice none 0 0]) ?_ 1 _ rfl;(with_reducible repeat (first|refine blk_drewN ?_ _|refine blk_drew ?_|refine blk_alloc ?_ _));refine blk_put (cs:=#[.string bz3,.slice none 0 0,.slice none 0 0]) ?_ 0 _ rfl;(with_reducible repeat (first|refine blk_drewN ?_ _|refine blk_drew ?_|refine blk_alloc ?_ _));exact BK356.out⟩
  have n4_:Aside0 (IsS102 w (((w8.setCell ⟨gb356,0,none⟩ (.string t348)).setCell ⟨gb356,1,none⟩ (.slice Ao12 t349.length co12)).setCell ⟨gb356,2,none⟩ (.slice Ao13 t352.length co13)) g347 t345 t355):=⟨by repeat (first|(with_reducible first|exact HI347.out|apply IsS102.alloc|apply IsS102.drewN|apply IsS102.drew|apply IsS102.set_1|refine IsS102.far ?_ NB347_344.out _|refine IsS102.far ?_ NB347_356.out _)|exact HI347.out)⟩
  have n5_:Aside0 (Below w.heap.size w (((w8.setCell ⟨gb356,0,none⟩ (.string t348)).setCell ⟨gb356,1,none⟩ (.slice Ao12 t349.length co12)).setCell ⟨gb356,2,none⟩ (.slice Ao13 t352.length co13))):=⟨by repeat (first|(with_reducible first|exact HB.out|apply below_alloc|apply pw_below_drewN|apply below_drew1|refine below_set ?_ (IsS102.ge HI347.out)|refine below_set ?_ GE344.out|refine below_set ?_ GE356.out)|exact HB.out)⟩
  (try clear HO351)
  (try clear HO354)
  (try clear BK344)
  (try clear BK356)
  (try clear HI347)
  (try clear HB)
  generalize (((w8.setCell ⟨gb356,0,none⟩ (.string t348)).setCell ⟨gb356,1,none⟩ (.slice Ao12 t349.length co12)).setCell ⟨gb356,2,none⟩ (.slice Ao13 t352.length co13))=w14 at n0_ n1_ n2_ n3_ n4_ n5_ ⊢
  have HO351:=n0_
  have HO354:=n1_
  have BK344:=n2_
  have BK356:=n3_
  have HI347:=n4_
  have HB:=n5_
  clear n0_ n1_ n2_ n3_ n4_ n5_
  have n0_:=Aside0.mk (Kd.V_drew HO351.out)
  have n1_:=Aside0.mk (Kd.V_drew HO354.out)
  have n2_:=Aside0.mk (blk_drew BK344.out)
  have n3_:=Aside0.mk (blk_drew BK356.out)
  have n4_:=Aside0.mk (IsS102.drew HI347.out)
  have n5_:=Aside0.mk (below_drew1 HB.out)
  clear HO351
  clear HO354
  clear BK344
  clear BK356
  clear HI347
  clear HB
  have HO351:=n0_
  have HO354:=n1_
  have BK344:=n2_
  have BK356:=n3_
  have HI347:=n4_
  have HB:=n5_
  clear n0_ n1_ n2_ n3_ n4_ n5_
  refine start_ (n:=6) (S:=fun w'=>w'.cell? ⟨gb356,0,none⟩=some (.string t348)∧w'.cell? ⟨gb356,1,none⟩=some (.slice Ao12 t349.length co12)∧w'.cell? ⟨gb356,2,none⟩=some (.slice Ao13 t352.length co13)) (ds:=[]) #[false,false,false,false,false,false] (by kernel_rfl) rfl rfl ⟨(blk_cell BK356.out 0).trans rfl,(blk_cell BK356.out 1).trans rfl,(blk_cell BK356.out 2).trans rfl⟩ (fun hHeld=>?_)
  generalize w14.drew=w15 at HO351 HO354 BK344 BK356 HI347 HB hHeld ⊢
  refine pure_ (i:=1) (N:=some 11) (v:=?_) (a':=?_) #[false,true,false,false,false,false] rfl rfl (by kernel_rfl) (fun _ _ _ h=>h) (Or.inl ⟨by rfl,?_⟩) ?_ ?_
  rotate_left
  · intro w'
    go_simp
    with_reducible rfl
  rotate_left
  · simp only [Act.put,List.setIfInBounds_toArray,List.set_cons_zero,List.set_cons_succ,i64_w,i32_w]
    rfl
  refine take_ (i:=0) (N:=some 10) (v:=?_) (a':=?_) #[true,true,false,false,false,false] rfl rfl (by kernel_rfl) (fun _ _ _ h=>h) (Or.inl ⟨by rfl,?_⟩) hHeld ?_ ?_
  rotate_left
  · rintro w' ⟨s0,s1,s2⟩
    go_simp
    with_reducible rfl
  rotate_left
  · simp only [Act.put,List.setIfInBounds_toArray,List.set_cons_zero,List.set_cons_succ,i64_w,i32_w]
    rfl
  refine one_ (i:=2) (N:=some 12) #[true,true,true,false,false,false] rfl rfl (by kernel_rfl) (by decide) (fun K hK=>?_)
  refine goes_ Tryd.func76 (by kernel_rfl) rfl #[.pointer (some ⟨g347,0,none⟩)] (by rfl) rfl rfl (by (try simp only [List.map_toArray,List.map_cons,List.map_nil]);first|done|rfl|(simp only [List.length_drop,List.length_take];rfl)) ?_
  with_reducible refine (spec_l20AnyAddr.calls k g347 t345 t355 t357 t358 t359 w _ ?side1 ?side2 A4.out).mono ?_
  (case side1=>repeat (first|(with_reducible first|exact HI347.out|apply IsS102.alloc|apply IsS102.drewN|apply IsS102.drew|apply IsS102.set_1|refine IsS102.far ?_ NB347_344.out _|refine IsS102.far ?_ NB347_356.out _)|exact HI347.out))
  (case side2=>repeat (first|(with_reducible first|exact HB.out|apply below_alloc|apply pw_below_drewN|apply below_drew1|refine below_set ?_ (IsS102.ge HI347.out)|refine below_set ?_ GE344.out|refine below_set ?_ GE356.out)|exact HB.out))
  rintro e w16 ⟨rfl,hi,hb,hk⟩
  refine ⟨_,rfl,?_⟩
  have n0_:=Aside0.mk (KeepBut.blk hk (g':=gb344) (o:=.cells #[.string bz3,.slice none 0 0,.slice none 0 0] 56 (0,0)) (by (with_reducible repeat (first|refine blk_drewN ?_ _|refine blk_drew ?_|refine blk_alloc ?_ _));exact BK344.out) NB344_347.out (by simp))
  have n1_:=Aside0.mk (Kd.V_mono (Kd.V_keep (Kd.V_mono (ok:=fun k_=>(((w.heap.size≤k_))∧(k_≠gb344∧(k_≠g347∧k_≠gb356)))) (by (with_reducible repeat (first|apply Kd.V_alloc|apply Kd.V_drewN|apply Kd.V_drew));exact HO351.out) (fun k_ hk_=>(⟨hk_,hk_.2.2.1⟩:_∧k_≠g347))) hk (fun _ h=>h.2)) (fun _ h=>h.1))
  have n2_:=Aside0.mk (Kd.V_mono (Kd.V_keep (Kd.V_mono (ok:=fun k_=>(((w.heap.size≤k_))∧(k_≠gb344∧(k_≠g347∧k_≠gb356)))) (by (with_reducible repeat (first|apply Kd.V_alloc|apply Kd.V_drewN|apply Kd.V_drew));exact HO354.out) (fun k_ hk_=>(⟨hk_,hk_.2.2.1⟩:_∧k_≠g347))) hk (fun _ h=>h.2)) (fun _ h=>h.1))
  have n3_:=Aside0.mk (KeepBut.blk hk (g':=gb356) (o:=.cells #[.string t348,.slice Ao12 t349.length co12,.slice Ao13 t352.length co13] 56 (0,0)) (by (with_reducible repeat (first|refine blk_drewN ?_ _|refine blk_drew ?_|refine blk_alloc ?_ _));exact BK356.out) NB356_347.out (by simp))
  have n4_:=Aside0.mk (hb)
  have n5_:=Aside0.mk (hi)
  clear BK344
  clear HO351
  clear HO354
  clear BK356
  clear HB
  clear HI347
  have BK344:=n0_
  have HO351:=n1_
  have HO354:=n2_
  have BK356:=n3_
  have HB:=n4_
  have HI347:=n5_
  clear n0_ n1_ n2_ n3_ n4_ n5_
  (try clear hb)
  (try clear hb2)
  (try clear hk)
  (try clear hi)
  refine hK.out _ _ ⟨(blk_cell BK356.out 0).trans rfl,(blk_cell BK356.out 1).trans rfl,(blk_cell BK356.out 2).trans rfl⟩ (fun hHeld=>?_)
  clear hK K
  refine norm_ (a':=?_) ?_ ?_
  rotate_left
  · show Act.put _ (some 12) _=_
    simp only [Act.put,List.setIfInBounds_toArray,List.set_cons_zero,List.set_cons_succ,i64_w,i32_w]
    rfl
  refine pure_ (i:=3) (N:=some 13) (v:=?_) (a':=?_) #[true,true,true,true,false,false] rfl rfl (by kernel_rfl) (fun _ _ _ h=>h) (Or.inl ⟨by rfl,?_⟩) ?_ ?_
  rotate_left
  · intro w'
    go_simp
    with_reducible rfl
  rotate_left
  · simp only [Act.put,List.setIfInBounds_toArray,List.set_cons_zero,List.set_cons_succ,i64_w,i32_w]
    rfl
  refine one_ (i:=4) (N:=none) #[true,true,true,true,true,false] rfl rfl (by kernel_rfl) (by decide) (fun K hK=>?_)
  have hs17:w16.cell? ⟨gb344,0,none⟩=some (.string bz3):=(blk_cell BK344.out 0).trans rfl
  have hfs17:=blk_frozen BK344.out 0
  have hns17_1:=NB356_344.out
  have hms17_1:=NB344_356.out
  have hs18:w16.cell? ⟨gb344,1,none⟩=some (.slice none 0 0):=(blk_cell BK344.out 1).trans rfl
  have hfs18:=blk_frozen BK344.out 1
  have hns18_1:=NB356_344.out
  have hms18_1:=NB344_356.out
  have hs19:w16.cell? ⟨gb344,2,none⟩=some (.slice none 0 0):=(blk_cell BK344.out 2).trans rfl
  have hfs19:=blk_frozen BK344.out 2
  have hns19_1:=NB356_344.out
  have hms19_1:=NB344_356.out
  refine skip_ (w1:=?_) (by rfl) rfl ?_ ?_
  rotate_left
  · go_simp
    rfl
  refine hK.out _ _ ⟨((cell_far (p:=⟨gb344,_,none⟩) NB356_344.out _).trans (((cell_far (p:=⟨gb344,_,none⟩) NB356_344.out _).trans (((cell_far (p:=⟨gb344,_,none⟩) NB356_344.out _).trans (hHeld.1)))))),((cell_far (p:=⟨gb344,_,none⟩) NB356_344.out _).trans (((cell_far (p:=⟨gb344,_,none⟩) NB356_344.out _).trans (((cell_far (p:=⟨gb344,_,none⟩) NB356_344.out _).trans (hHeld.2.1)))))),((cell_far (p:=⟨gb344,_,none⟩) NB356_344.out _).trans (((cell_far (p:=⟨gb344,_,none⟩) NB356_344.out _).trans (((cell_far (p:=⟨gb344,_,none⟩) NB356_344.out _).trans (hHeld.2.2))))))⟩ (fun hHeld=>?_)
  clear hK K
  refine pure_ (i:=5) (N:=some 3) (v:=?_) (a':=?_) #[true,true,true,true,true,true] rfl rfl (by kernel_rfl) (fun _ _ _ h=>h) (Or.inl ⟨by rfl,?_⟩) ?_ ?_
  rotate_left
  · intro w'
    go_simp
    with_reducible rfl
  rotate_left
  · simp only [Act.put,List.setIfInBounds_toArray,List.set_cons_zero,List.set_cons_succ,i64_w,i32_w]
    rfl
  refine done_ (by kernel_rfl) ?_
  try go_wp2
  refine bodyPost_ret (results_ct rfl _ _ gb344 56 #[.string t348,.slice Ao12 t349.length co12,.slice Ao13 t352.length co13] (0,0) _ rfl (by (with_reducible repeat (first|refine blk_drewN ?_ _|refine blk_drew ?_|refine blk_alloc ?_ _));refine blk_put (cs:=#[.string t348,.slice Ao12 t349.length co12,.slice none 0 0]) ?_ 2 _ rfl;(with_reducible repeat (first|refine blk_drewN ?_ _|refine blk_drew ?_|refine blk_alloc ?_ _));refine blk_put (cs:=#[.string t348,.slice none 0 0,.slice none 0 0]) ?_ 1 _ rfl;(with_reducible repeat (first|refine blk_drewN ?_ _|refine blk_drew ?_|refine blk_alloc ?_ _));refine blk_put (cs:=#[.string bz3,.slice none 0 0,.slice none 0 0]) ?_ 0 _ rfl;(with_reducible repeat (first|refine blk_drewN ?_ _|refine blk_drew ?_|refine blk_alloc ?_ _));exact BK344.out) Tryd.underlying56 rfl (by kernel_rfl)) rfl ?_
  exact ⟨_,_,by first|rfl|(simp [errW_none,errW_some]<;>rfl)|(simp [*,errW_none,errW_some]<;>rfl),by (with_reducible repeat (first|apply Kd.V_alloc|apply Kd.V_drewN|apply Kd.V_drew));exact Kd.V_mono (Kd.V_far (p:=⟨gb344,2,none⟩) (Kd.V_far (p:=⟨gb344,1,none⟩) (Kd.V_far (p:=⟨gb344,0,none⟩) (Kd.V_mono HO351.out (fun k_ hk=>(⟨hk,hk.2.1⟩:_∧k_≠gb344))) (fun _ hk=>hk.2) (.string t348)) (fun _ hk=>hk.2) (.slice Ao12 t349.length co12)) (fun _ hk=>hk.2) (.slice Ao13 t352.length co13)) (fun _ hk=>hk.1.1),by (with_reducible repeat (first|apply Kd.V_alloc|apply Kd.V_drewN|apply Kd.V_drew));exact Kd.V_mono (Kd.V_far (p:=⟨gb344,2,none⟩) (Kd.V_far (p:=⟨gb344,1,none⟩) (Kd.V_far (p:=⟨gb344,0,none⟩) (Kd.V_mono HO354.out (fun k_ hk=>(⟨hk,hk.2.1⟩:_∧k_≠gb344))) (fun _ hk=>hk.2) (.string t348)) (fun _ hk=>hk.2) (.slice Ao12 t349.length co12)) (fun _ hk=>hk.2) (.slice Ao13 t352.length co13)) (fun _ hk=>hk.1.1),by repeat (first|(with_reducible first|exact HB.out|apply below_alloc|apply pw_below_drewN|apply below_drew1|refine below_set ?_ (IsS102.ge HI347.out)|refine below_set ?_ GE344.out|refine below_set ?_ GE356.out)|exact HB.out)⟩
def impl_WayOf.f (k:Nat) (a0_0:ByteArray) (l0_1:List ByteArray) (l0_2:List (S69)) (a1:ByteArray):Option (ByteArray):=(impl_ConfOk.f k a0_0 l0_1 l0_2).bind fun t345=>(if t345=true then ((impl_DomainOk.f k a1).bind fun t346=>(if t346=true then ((impl_Conf_way.f k a0_0 l0_1 l0_2 a1).bind fun t347=>(some t347)) else (some bz3))) else (some bz3))
set_option maxHeartbeats 8000000 in
set_option maxRecDepth 100000 in
theorem impl_WayOf.calls (k:Nat) (a0_0:ByteArray) (A0_1:Option Addr) (c0_1:Nat) (l0_1:List ByteArray) (A0_2:Option Addr) (c0_2:Nat) (l0_2:List (S69)) (a1:ByteArray) (r:ByteArray) (w:World) (hr0_1:Kd.C Kd.string w A0_1 l0_1.length l0_1) (hc0_1:l0_1.length≤c0_1) (hr0_2:Kd.C k69 w A0_2 l0_2.length l0_2) (hc0_2:l0_2.length≤c0_2) (hG:GOK w) (h:impl_WayOf.f k a0_0 l0_1 l0_2 a1=some r) :
    Calls Tryd.prog 51 #[.agg #[.string a0_0,.slice A0_1 l0_1.length c0_1,.slice A0_2 l0_2.length c0_2],.string a1] w fun e w'=>e=.returned (.string r)∧Below w.heap.size w w':=by
  have hu56:=Tryd.underlying56
  have HR0_1:=Aside0.mk hr0_1
  have HC0_1:=Aside0.mk hc0_1
  clear hr0_1 hc0_1
  have HR0_2:=Aside0.mk hr0_2
  have HC0_2:=Aside0.mk hc0_2
  clear hr0_2 hc0_2
  have HG:=Aside0.mk hG
  clear hG
  have HB:=Aside0.mk (Below.refl w.heap.size w)
  have H:((impl_ConfOk.f k a0_0 l0_1 l0_2).bind fun t345=>(if t345=true then ((impl_DomainOk.f k a1).bind fun t346=>(if t346=true then ((impl_Conf_way.f k a0_0 l0_1 l0_2 a1).bind fun t347=>(some t347)) else (some bz3))) else (some bz3)))=some r:=h
  clear h
  replace H:=Option.bind_eq_some_iff.mp H
  obtain ⟨t345,A30,H⟩:=H
  replace H:(if t345=true then ((impl_DomainOk.f k a1).bind fun t346=>(if t346=true then ((impl_Conf_way.f k a0_0 l0_1 l0_2 a1).bind fun t347=>(some t347)) else (some bz3))) else (some bz3))=some r:=H
  have A3:=Aside0.mk A30
  clear A30
  by_cases c4:t345=true
  · subst c4
    have H1:((impl_DomainOk.f k a1).bind fun t346=>(if t346=true then ((impl_Conf_way.f k a0_0 l0_1 l0_2 a1).bind fun t347=>(some t347)) else (some bz3)))=some r:=by rw [if_pos rfl] at H;exact H
    clear H
    have H:=H1
    clear H1
    replace H:=Option.bind_eq_some_iff.mp H
    obtain ⟨t346,A50,H⟩:=H
    replace H:(if t346=true then ((impl_Conf_way.f k a0_0 l0_1 l0_2 a1).bind fun t347=>(some t347)) else (some bz3))=some r:=H
    have A5:=Aside0.mk A50
    clear A50
    by_cases c6:t346=true
    · subst c6
      have H1:((impl_Conf_way.f k a0_0 l0_1 l0_2 a1).bind fun t347=>(some t347))=some r:=by rw [if_pos rfl] at H;exact H
      clear H
      have H:=H1
      clear H1
      replace H:=Option.bind_eq_some_iff.mp H
      obtain ⟨t347,A70,H⟩:=H
      replace H:(some t347)=some r:=H
      have A7:=Aside0.mk A70
      clear A70
      obtain rfl:=Option.some.inj H
      go_enter Tryd.func51,Tryd.ntmps51
      go_wp2_with (first|((with_reducible refine gate_dst (N:=2) rfl ?_);refine box_event ?hg (N:=2) ?hd (cs:=#[.string a0_0,.slice A0_1 l0_1.length c0_1,.slice A0_2 l0_2.length c0_2]) (t:=56) ?hr ?_;(case hd=>rfl);(case hg=>rfl);(case hr=>first|(go_simp;done)|(go_simp;rfl));intro gb344 hg w8 hbox hb;have n0_:=Aside0.mk (below_step (by repeat (first|(with_reducible first|exact HB.out|apply below_alloc|apply pw_below_drewN|apply below_drew1)|exact HB.out)) hb);have n1_:=Aside0.mk (hbox);have n2_:=Aside0.mk ((by rw [hg];exact (below_size (by repeat (first|(with_reducible first|exact HB.out|apply below_alloc|apply pw_below_drewN|apply below_drew1)|exact HB.out))):w.heap.size≤gb344));have n3_:=Aside0.mk ((by rw [hg];exact (below_size (by repeat (first|(with_reducible first|exact HB.out|apply below_alloc|apply pw_below_drewN|apply below_drew1)|exact HB.out))):w.heap.size≤gb344));clear HB;have HB:=n0_;have BK344:=n1_;have GW344:=n2_;have GE344:=n3_;clear n0_ n1_ n2_ n3_;clear hb hbox hg;have hcz9_0:w8.cell? ⟨gb344,0,none⟩=some (.string a0_0):=(blk_cell BK344.out 0).trans rfl;have hcz9_1:w8.cell? ⟨gb344,1,none⟩=some (.slice A0_1 l0_1.length c0_1):=(blk_cell BK344.out 1).trans rfl;have hcz9_2:w8.cell? ⟨gb344,2,none⟩=some (.slice A0_2 l0_2.length c0_2):=(blk_cell BK344.out 2).trans rfl;have hfz9_0:=blk_frozen BK344.out 0;have hfz9_1:=blk_frozen BK344.out 1;have hfz9_2:=blk_frozen BK344.out 2)|((with_reducible refine gate_callee (f:=42) rfl ?_);refine goesL_ (some 6) rfl rfl Tryd.func42 (by kernel_rfl) rfl #[.agg #[.string a0_0,.slice A0_1 l0_1.length c0_1,.slice A0_2 l0_2.length c0_2]] rfl (by (try simp only [List.map_toArray,List.map_cons,List.map_nil]);first|done|rfl|(simp only [List.length_drop,List.length_take];rfl)) ?_;(with_reducible refine (impl_ConfOk.calls k a0_0 _ _ l0_1 _ _ l0_2 true _ ?side1 ?side2 ?side3 ?side4 ?side5 A3.out).mono ?_);(case side1=>repeat (first|exact (Kd.C_below HR0_1.out HB.out)|(with_reducible refine Kd.C_alloc ?_ _)|(with_reducible refine Kd.C_drewN ?_ _)|(with_reducible refine Kd.C_drew ?_)));(case side2=>exact HC0_1.out);(case side3=>repeat (first|exact (Kd.C_below HR0_2.out HB.out)|(with_reducible refine Kd.C_alloc ?_ _)|(with_reducible refine Kd.C_drewN ?_ _)|(with_reducible refine Kd.C_drew ?_)));(case side4=>exact HC0_2.out);(case side5=>first|(with_reducible exact HG.out)|((with_reducible repeat (first|exact HG.out|apply GOK.drewN|apply GOK.drew));done)|exact GOK.below HG.out (by repeat (first|(with_reducible first|exact HB.out|apply below_alloc|apply pw_below_drewN|apply below_drew1|refine below_set ?_ GE344.out)|exact HB.out)));rintro e w10 ⟨rfl,hb⟩;refine ⟨_,rfl,?_⟩;have n0_:=Aside0.mk (blk_below (g:=gb344) (o:=.cells #[.string a0_0,.slice A0_1 l0_1.length c0_1,.slice A0_2 l0_2.length c0_2] 56 (0,0)) (by (with_reducible repeat (first|refine blk_drewN ?_ _|refine blk_drew ?_|refine blk_alloc ?_ _));exact BK344.out) hb);have n1_:=Aside0.mk (below_step (by repeat (first|(with_reducible first|exact HB.out|apply below_alloc|apply pw_below_drewN|apply below_drew1|refine below_set ?_ GE344.out)|exact HB.out)) hb);clear BK344;clear HB;have BK344:=n0_;have HB:=n1_;clear n0_ n1_;(try clear hb);(try clear hb2);(try clear hk);(try clear hi))|(go_at_call 18;(with_reducible refine (impl_DomainOk.calls k a1 true _ ?side1 A5.out).mono ?_);(case side1=>first|(with_reducible exact HG.out)|((with_reducible repeat (first|exact HG.out|apply GOK.drewN|apply GOK.drew));done)|exact GOK.below HG.out (by repeat (first|(with_reducible first|exact HB.out|apply below_alloc|apply pw_below_drewN|apply below_drew1|refine below_set ?_ GE344.out)|exact HB.out)));rintro e w11 ⟨rfl,hb⟩;have n0_:=Aside0.mk (blk_below (g:=gb344) (o:=.cells #[.string a0_0,.slice A0_1 l0_1.length c0_1,.slice A0_2 l0_2.length c0_2] 56 (0,0)) (by (with_reducible repeat (first|refine blk_drewN ?_ _|refine blk_drew ?_|refine blk_alloc ?_ _));exact BK344.out) hb);have n1_:=Aside0.mk (below_step (by repeat (first|(with_reducible first|exact HB.out|apply below_alloc|apply pw_below_drewN|apply below_drew1|refine below_set ?_ GE344.out)|exact HB.out)) hb);clear BK344;clear HB;have BK344:=n0_;have HB:=n1_;clear n0_ n1_;(try clear hb);(try clear hb2);(try clear hk);(try clear hi);have hcz12_0:w11.cell? ⟨gb344,0,none⟩=some (.string a0_0):=(blk_cell BK344.out 0).trans rfl;have hcz12_1:w11.cell? ⟨gb344,1,none⟩=some (.slice A0_1 l0_1.length c0_1):=(blk_cell BK344.out 1).trans rfl;have hcz12_2:w11.cell? ⟨gb344,2,none⟩=some (.slice A0_2 l0_2.length c0_2):=(blk_cell BK344.out 2).trans rfl;have hfz12_0:=blk_frozen BK344.out 0;have hfz12_1:=blk_frozen BK344.out 1;have hfz12_2:=blk_frozen BK344.out 2)|((with_reducible refine gate_callee (f:=93) rfl ?_);refine goesL_ (some 15) rfl rfl Tryd.func93 (by kernel_rfl) rfl #[.agg #[.string a0_0,.slice A0_1 l0_1.length c0_1,.slice A0_2 l0_2.length c0_2],.string a1] rfl (by (try simp only [List.map_toArray,List.map_cons,List.map_nil]);first|done|rfl|(simp only [List.length_drop,List.length_take];rfl)) ?_;(with_reducible refine (impl_Conf_way.calls k a0_0 _ _ l0_1 _ _ l0_2 a1 t347 _ ?side1 ?side2 ?side3 ?side4 ?side5 A7.out).mono ?_);(case side1=>repeat (first|exact (Kd.C_below HR0_1.out HB.out)|(with_reducible refine Kd.C_alloc ?_ _)|(with_reducible refine Kd.C_drewN ?_ _)|(with_reducible refine Kd.C_drew ?_)));(case side2=>exact HC0_1.out);(case side3=>repeat (first|exact (Kd.C_below HR0_2.out HB.out)|(with_reducible refine Kd.C_alloc ?_ _)|(with_reducible refine Kd.C_drewN ?_ _)|(with_reducible refine Kd.C_drew ?_)));(case side4=>exact HC0_2.out);(case side5=>first|(with_reducible exact HG.out)|((with_reducible repeat (first|exact HG.out|apply GOK.drewN|apply GOK.drew));done)|exact GOK.below HG.out (by repeat (first|(with_reducible first|exact HB.out|apply below_alloc|apply pw_below_drewN|apply below_drew1|refine below_set ?_ GE344.out)|exact HB.out)));rintro e w13 ⟨rfl,hb⟩;refine ⟨_,rfl,?_⟩;have n0_:=Aside0.mk (blk_below (g:=gb344) (o:=.cells #[.string a0_0,.slice A0_1 l0_1.length c0_1,.slice A0_2 l0_2.length c0_2] 56 (0,0)) (by (with_reducible repeat (first|refine blk_drewN ?_ _|refine blk_drew ?_|refine blk_alloc ?_ _));exact BK344.out) hb);have n1_:=Aside0.mk (below_step (by repeat (first|(with_reducible first|exact HB.out|apply below_alloc|apply pw_below_drewN|apply below_drew1|refine below_set ?_ GE344.out)|exact HB.out)) hb);clear BK344;clear HB;have BK344:=n0_;have HB:=n1_;clear n0_ n1_;(try clear hb);(try clear hb2);(try clear hk);(try clear hi)))
      go_ret
      exact ⟨by first|rfl|(simp [errW_none,errW_some]<;>rfl)|(simp [*,errW_none,errW_some]<;>rfl),by repeat (first|(with_reducible first|exact HB.out|apply below_alloc|apply pw_below_drewN|apply below_drew1|refine below_set ?_ GE344.out)|exact HB.out)⟩
    · replace c6:=Bool.eq_false_iff.mpr c6
      subst c6
      have H1:(some bz3)=some r:=by rw [if_neg (show ¬ (false=true) by decide)] at H;exact H
      clear H
      have H:=H1
      clear H1
      obtain rfl:=Option.some.inj H
      go_enter Tryd.func51,Tryd.ntmps51
      go_wp2_with (first|((with_reducible refine gate_dst (N:=2) rfl ?_);refine box_event ?hg (N:=2) ?hd (cs:=#[.string a0_0,.slice A0_1 l0_1.length c0_1,.slice A0_2 l0_2.length c0_2]) (t:=56) ?hr ?_;(case hd=>rfl);(case hg=>rfl);(case hr=>first|(go_simp;done)|(go_simp;rfl));intro gb344 hg w14 hbox hb;have n0_:=Aside0.mk (below_step (by repeat (first|(with_reducible first|exact HB.out|apply below_alloc|apply pw_below_drewN|apply below_drew1)|exact HB.out)) hb);have n1_:=Aside0.mk (hbox);have n2_:=Aside0.mk ((by rw [hg];exact (below_size (by repeat (first|(with_reducible first|exact HB.out|apply below_alloc|apply pw_below_drewN|apply below_drew1)|exact HB.out))):w.heap.size≤gb344));have n3_:=Aside0.mk ((by rw [hg];exact (below_size (by repeat (first|(with_reducible first|exact HB.out|apply below_alloc|apply pw_below_drewN|apply below_drew1)|exact HB.out))):w.heap.size≤gb344));clear HB;have HB:=n0_;have BK344:=n1_;have GW344:=n2_;have GE344:=n3_;clear n0_ n1_ n2_ n3_;clear hb hbox hg;have hcz15_0:w14.cell? ⟨gb344,0,none⟩=some (.string a0_0):=(blk_cell BK344.out 0).trans rfl;have hcz15_1:w14.cell? ⟨gb344,1,none⟩=some (.slice A0_1 l0_1.length c0_1):=(blk_cell BK344.out 1).trans rfl;have hcz15_2:w14.cell? ⟨gb344,2,none⟩=some (.slice A0_2 l0_2.length c0_2):=(blk_cell BK344.out 2).trans rfl;have hfz15_0:=blk_frozen BK344.out 0;have hfz15_1:=blk_frozen BK344.out 1;have hfz15_2:=blk_frozen BK344.out 2)|((with_reducible refine gate_callee (f:=42) rfl ?_);refine goesL_ (some 6) rfl rfl Tryd.func42 (by kernel_rfl) rfl #[.agg #[.string a0_0,.slice A0_1 l0_1.length c0_1,.slice A0_2 l0_2.length c0_2]] rfl (by (try simp only [List.map_toArray,List.map_cons,List.map_nil]);first|done|rfl|(simp only [List.length_drop,List.length_take];rfl)) ?_;(with_reducible refine (impl_ConfOk.calls k a0_0 _ _ l0_1 _ _ l0_2 true _ ?side1 ?side2 ?side3 ?side4 ?side5 A3.out).mono ?_);(case side1=>repeat (first|exact (Kd.C_below HR0_1.out HB.out)|(with_reducible refine Kd.C_alloc ?_ _)|(with_reducible refine Kd.C_drewN ?_ _)|(with_reducible refine Kd.C_drew ?_)));(case side2=>exact HC0_1.out);(case side3=>repeat (first|exact (Kd.C_below HR0_2.out HB.out)|(with_reducible refine Kd.C_alloc ?_ _)|(with_reducible refine Kd.C_drewN ?_ _)|(with_reducible refine Kd.C_drew ?_)));(case side4=>exact HC0_2.out);(case side5=>first|(with_reducible exact HG.out)|((with_reducible repeat (first|exact HG.out|apply GOK.drewN|apply GOK.drew));done)|exact GOK.below HG.out (by repeat (first|(with_reducible first|exact HB.out|apply below_alloc|apply pw_below_drewN|apply below_drew1|refine below_set ?_ GE344.out)|exact HB.out)));rintro e w16 ⟨rfl,hb⟩;refine ⟨_,rfl,?_⟩;have n0_:=Aside0.mk (blk_below (g:=gb344) (o:=.cells #[.string a0_0,.slice A0_1 l0_1.length c0_1,.slice A0_2 l0_2.length c0_2] 56 (0,0)) (by (with_reducible repeat (first|refine blk_drewN ?_ _|refine blk_drew ?_|refine blk_alloc ?_ _));exact BK344.out) hb);have n1_:=Aside0.mk (below_step (by repeat (first|(with_reducible first|exact HB.out|apply below_alloc|apply pw_below_drewN|apply below_drew1|refine below_set ?_ GE344.out)|exact HB.out)) hb);clear BK344;clear HB;have BK344:=n0_;have HB:=n1_;clear n0_ n1_;(try clear hb);(try clear hb2);(try clear hk);(try clear hi))|(go_at_call 18;(with_reducible refine (impl_DomainOk.calls k a1 false _ ?side1 A5.out).mono ?_);(case side1=>first|(with_reducible exact HG.out)|((with_reducible repeat (first|exact HG.out|apply GOK.drewN|apply GOK.drew));done)|exact GOK.below HG.out (by repeat (first|(with_reducible first|exact HB.out|apply below_alloc|apply pw_below_drewN|apply below_drew1|refine below_set ?_ GE344.out)|exact HB.out)));rintro e w17 ⟨rfl,hb⟩;have n0_:=Aside0.mk (blk_below (g:=gb344) (o:=.cells #[.string a0_0,.slice A0_1 l0_1.length c0_1,.slice A0_2 l0_2.length c0_2] 56 (0,0)) (by (with_reducible repeat (first|refine blk_drewN ?_ _|refine blk_drew ?_|refine blk_alloc ?_ _));exact BK344.out) hb);have n1_:=Aside0.mk (below_step (by repeat (first|(with_reducible first|exact HB.out|apply below_alloc|apply pw_below_drewN|apply below_drew1|refine below_set ?_ GE344.out)|exact HB.out)) hb);clear BK344;clear HB;have BK344:=n0_;have HB:=n1_;clear n0_ n1_;(try clear hb);(try clear hb2);(try clear hk);(try clear hi)))
      go_ret
      exact ⟨by first|rfl|(simp [errW_none,errW_some]<;>rfl)|(simp [*,errW_none,errW_some]<;>rfl),by repeat (first|(with_reducible first|exact HB.out|apply below_alloc|apply pw_below_drewN|apply below_drew1|refine below_set ?_ GE344.out)|exact HB.out)⟩
  · replace c4:=Bool.eq_false_iff.mpr c4
    subst c4
    have H1:(some bz3)=some r:=by rw [if_neg (show ¬ (false=true) by decide)] at H;exact H
    clear H
    have H:=H1
    clear H1
    obtain rfl:=Option.some.inj H
    go_enter Tryd.func51,Tryd.ntmps51
    go_wp2_with (first|((with_reducible refine gate_dst (N:=2) rfl ?_);refine box_event ?hg (N:=2) ?hd (cs:=#[.string a0_0,.slice A0_1 l0_1.length c0_1,.slice A0_2 l0_2.length c0_2]) (t:=56) ?hr ?_;(case hd=>rfl);(case hg=>rfl);(case hr=>first|(go_simp;done)|(go_simp;rfl));intro gb344 hg w18 hbox hb;have n0_:=Aside0.mk (below_step (by repeat (first|(with_reducible first|exact HB.out|apply below_alloc|apply pw_below_drewN|apply below_drew1)|exact HB.out)) hb);have n1_:=Aside0.mk (hbox);have n2_:=Aside0.mk ((by rw [hg];exact (below_size (by repeat (first|(with_reducible first|exact HB.out|apply below_alloc|apply pw_below_drewN|apply below_drew1)|exact HB.out))):w.heap.size≤gb344));have n3_:=Aside0.mk ((by rw [hg];exact (below_size (by repeat (first|(with_reducible first|exact HB.out|apply below_alloc|apply pw_below_drewN|apply below_drew1)|exact HB.out))):w.heap.size≤gb344));clear HB;have HB:=n0_;have BK344:=n1_;have GW344:=n2_;have GE344:=n3_;clear n0_ n1_ n2_ n3_;clear hb hbox hg;have hcz19_0:w18.cell? ⟨gb344,0,none⟩=some (.string a0_0):=(blk_cell BK344.out 0).trans rfl;have hcz19_1:w18.cell? ⟨gb344,1,none⟩=some (.slice A0_1 l0_1.length c0_1):=(blk_cell BK344.out 1).trans rfl;have hcz19_2:w18.cell? ⟨gb344,2,none⟩=some (.slice A0_2 l0_2.length c0_2):=(blk_cell BK344.out 2).trans rfl;have hfz19_0:=blk_frozen BK344.out 0;have hfz19_1:=blk_frozen BK344.out 1;have hfz19_2:=blk_frozen BK344.out 2)|((with_reducible refine gate_callee (f:=42) rfl ?_);refine goesL_ (some 6) rfl rfl Tryd.func42 (by kernel_rfl) rfl #[.agg #[.string a0_0,.slice A0_1 l0_1.length c0_1,.slice A0_2 l0_2.length c0_2]] rfl (by (try simp only [List.map_toArray,List.map_cons,List.map_nil]);first|done|rfl|(simp only [List.length_drop,List.length_take];rfl)) ?_;(with_reducible refine (impl_ConfOk.calls k a0_0 _ _ l0_1 _ _ l0_2 false _ ?side1 ?side2 ?side3 ?side4 ?side5 A3.out).mono ?_);(case side1=>repeat (first|exact (Kd.C_below HR0_1.out HB.out)|(with_reducible refine Kd.C_alloc ?_ _)|(with_reducible refine Kd.C_drewN ?_ _)|(with_reducible refine Kd.C_drew ?_)));(case side2=>exact HC0_1.out);(case side3=>repeat (first|exact (Kd.C_below HR0_2.out HB.out)|(with_reducible refine Kd.C_alloc ?_ _)|(with_reducible refine Kd.C_drewN ?_ _)|(with_reducible refine Kd.C_drew ?_)));(case side4=>exact HC0_2.out);(case side5=>first|(with_reducible exact HG.out)|((with_reducible repeat (first|exact HG.out|apply GOK.drewN|apply GOK.drew));done)|exact GOK.below HG.out (by repeat (first|(with_reducible first|exact HB.out|apply below_alloc|apply pw_below_drewN|apply below_drew1|refine below_set ?_ GE344.out)|exact HB.out)));rintro e w20 ⟨rfl,hb⟩;refine ⟨_,rfl,?_⟩;have n0_:=Aside0.mk (blk_below (g:=gb344) (o:=.cells #[.string a0_0,.slice A0_1 l0_1.length c0_1,.slice A0_2 l0_2.length c0_2] 56 (0,0)) (by (with_reducible repeat (first|refine blk_drewN ?_ _|refine blk_drew ?_|refine blk_alloc ?_ _));exact BK344.out) hb);have n1_:=Aside0.mk (below_step (by repeat (first|(with_reducible first|exact HB.out|apply below_alloc|apply pw_below_drewN|apply below_drew1|refine below_set ?_ GE344.out)|exact HB.out)) hb);clear BK344;clear HB;have BK344:=n0_;have HB:=n1_;clear n0_ n1_;(try clear hb);(try clear hb2);(try clear hk);(try clear hi)))
    go_ret
    exact ⟨by first|rfl|(simp [errW_none,errW_some]<;>rfl)|(simp [*,errW_none,errW_some]<;>rfl),by repeat (first|(with_reducible first|exact HB.out|apply below_alloc|apply pw_below_drewN|apply below_drew1|refine below_set ?_ GE344.out)|exact HB.out)⟩
def spec_WayOf.f (k:Nat) (a0_0:ByteArray) (l0_1:List ByteArray) (l0_2:List (S69)) (a1:ByteArray):Option (ByteArray):=(spec_l3ConfOk.f k a0_0 l0_1 l0_2).bind fun t345=>(if t345=true then ((spec_l1Domain.f k a1).bind fun t346=>(if t346=true then ((spec_l3Own.f k a0_0 l0_1 l0_2 bz3 a1).bind fun t347=>(if t347=true then (some bz3) else ((spec_l3Way.f k a0_0 l0_1 l0_2 a1).bind fun t348=>(some t348)))) else (some bz3))) else (some bz3))
set_option maxHeartbeats 8000000 in
set_option maxRecDepth 100000 in
theorem spec_WayOf.calls (k:Nat) (a0_0:ByteArray) (A0_1:Option Addr) (c0_1:Nat) (l0_1:List ByteArray) (A0_2:Option Addr) (c0_2:Nat) (l0_2:List (S69)) (a1:ByteArray) (r:ByteArray) (w:World) (hr0_1:Kd.C Kd.string w A0_1 l0_1.length l0_1) (hc0_1:l0_1.length≤c0_1) (hr0_2:Kd.C k69 w A0_2 l0_2.length l0_2) (hc0_2:l0_2.length≤c0_2) (h:spec_WayOf.f k a0_0 l0_1 l0_2 a1=some r) :
    Calls Tryd.prog 52 #[.agg #[.string a0_0,.slice A0_1 l0_1.length c0_1,.slice A0_2 l0_2.length c0_2],.string a1] w fun e w'=>e=.returned (.string r)∧Below w.heap.size w w':=by
  have hu56:=Tryd.underlying56
  have hu32:=Tryd.underlying32
  have HR0_1:=Aside0.mk hr0_1
  have HC0_1:=Aside0.mk hc0_1
  clear hr0_1 hc0_1
  have HR0_2:=Aside0.mk hr0_2
  have HC0_2:=Aside0.mk hc0_2
  clear hr0_2 hc0_2
  have HB:=Aside0.mk (Below.refl w.heap.size w)
  have H:((spec_l3ConfOk.f k a0_0 l0_1 l0_2).bind fun t345=>(if t345=true then ((spec_l1Domain.f k a1).bind fun t346=>(if t346=true then ((spec_l3Own.f k a0_0 l0_1 l0_2 bz3 a1).bind fun t347=>(if t347=true then (some bz3) else ((spec_l3Way.f k a0_0 l0_1 l0_2 a1).bind fun t348=>(some t348)))) else (some bz3))) else (some bz3)))=some r:=h
  clear h
  replace H:=Option.bind_eq_some_iff.mp H
  obtain ⟨t345,A30,H⟩:=H
  replace H:(if t345=true then ((spec_l1Domain.f k a1).bind fun t346=>(if t346=true then ((spec_l3Own.f k a0_0 l0_1 l0_2 bz3 a1).bind fun t347=>(if t347=true then (some bz3) else ((spec_l3Way.f k a0_0 l0_1 l0_2 a1).bind fun t348=>(some t348)))) else (some bz3))) else (some bz3))=some r:=H
  have A3:=Aside0.mk A30
  clear A30
  by_cases c4:t345=true
  · subst c4
    have H1:((spec_l1Domain.f k a1).bind fun t346=>(if t346=true then ((spec_l3Own.f k a0_0 l0_1 l0_2 bz3 a1).bind fun t347=>(if t347=true then (some bz3) else ((spec_l3Way.f k a0_0 l0_1 l0_2 a1).bind fun t348=>(some t348)))) else (some bz3)))=some r:=by rw [if_pos rfl] at H;exact H
    clear H
    have H:=H1
    clear H1
    replace H:=Option.bind_eq_some_iff.mp H
    obtain ⟨t346,A50,H⟩:=H
    replace H:(if t346=true then ((spec_l3Own.f k a0_0 l0_1 l0_2 bz3 a1).bind fun t347=>(if t347=true then (some bz3) else ((spec_l3Way.f k a0_0 l0_1 l0_2 a1).bind fun t348=>(some t348)))) else (some bz3))=some r:=H
    have A5:=Aside0.mk A50
    clear A50
    by_cases c6:t346=true
    · subst c6
      have H1:((spec_l3Own.f k a0_0 l0_1 l0_2 bz3 a1).bind fun t347=>(if t347=true then (some bz3) else ((spec_l3Way.f k a0_0 l0_1 l0_2 a1).bind fun t348=>(some t348))))=some r:=by rw [if_pos rfl] at H;exact H
      clear H
      have H:=H1
      clear H1
      replace H:=Option.bind_eq_some_iff.mp H
      obtain ⟨t347,A70,H⟩:=H
      replace H:(if t347=true then (some bz3) else ((spec_l3Way.f k a0_0 l0_1 l0_2 a1).bind fun t348=>(some t348)))=some r:=H
      have A7:=Aside0.mk A70
      clear A70
      by_cases c8:t347=true
      · subst c8
        have H1:(some bz3)=some r:=by rw [if_pos rfl] at H;exact H
        clear H
        have H:=H1
        clear H1
        obtain rfl:=Option.some.inj H
        go_enter Tryd.func52,Tryd.ntmps52
        go_wp2_with (first|((with_reducible refine gate_dst (N:=2) rfl ?_);refine box_event ?hg (N:=2) ?hd (cs:=#[.string a0_0,.slice A0_1 l0_1.length c0_1,.slice A0_2 l0_2.length c0_2]) (t:=56) ?hr ?_;(case hd=>rfl);(case hg=>rfl);(case hr=>first|(go_simp;done)|(go_simp;rfl));intro gb344 hg w9 hbox hb;have n0_:=Aside0.mk (below_step (by repeat (first|(with_reducible first|exact HB.out|apply below_alloc|apply pw_below_drewN|apply below_drew1)|exact HB.out)) hb);have n1_:=Aside0.mk (hbox);have n2_:=Aside0.mk ((by rw [hg];exact (below_size (by repeat (first|(with_reducible first|exact HB.out|apply below_alloc|apply pw_below_drewN|apply below_drew1)|exact HB.out))):w.heap.size≤gb344));have n3_:=Aside0.mk ((by rw [hg];exact (below_size (by repeat (first|(with_reducible first|exact HB.out|apply below_alloc|apply pw_below_drewN|apply below_drew1)|exact HB.out))):w.heap.size≤gb344));clear HB;have HB:=n0_;have BK344:=n1_;have GW344:=n2_;have GE344:=n3_;clear n0_ n1_ n2_ n3_;clear hb hbox hg;have hcz10_0:w9.cell? ⟨gb344,0,none⟩=some (.string a0_0):=(blk_cell BK344.out 0).trans rfl;have hcz10_1:w9.cell? ⟨gb344,1,none⟩=some (.slice A0_1 l0_1.length c0_1):=(blk_cell BK344.out 1).trans rfl;have hcz10_2:w9.cell? ⟨gb344,2,none⟩=some (.slice A0_2 l0_2.length c0_2):=(blk_cell BK344.out 2).trans rfl;have hfz10_0:=blk_frozen BK344.out 0;have hfz10_1:=blk_frozen BK344.out 1;have hfz10_2:=blk_frozen BK344.out 2)|((with_reducible refine gate_callee (f:=81) rfl ?_);refine goesL_ (some 6) rfl rfl Tryd.func81 (by kernel_rfl) rfl #[.agg #[.string a0_0,.slice A0_1 l0_1.length c0_1,.slice A0_2 l0_2.length c0_2]] rfl (by (try simp only [List.map_toArray,List.map_cons,List.map_nil]);first|done|rfl|(simp only [List.length_drop,List.length_take];rfl)) ?_;(with_reducible refine (spec_l3ConfOk.calls k a0_0 _ _ l0_1 _ _ l0_2 true _ ?side1 ?side2 ?side3 ?side4 A3.out).mono ?_);(case side1=>repeat (first|exact (Kd.C_below HR0_1.out HB.out)|(with_reducible refine Kd.C_alloc ?_ _)|(with_reducible refine Kd.C_drewN ?_ _)|(with_reducible refine Kd.C_drew ?_)));(case side2=>exact HC0_1.out);(case side3=>repeat (first|exact (Kd.C_below HR0_2.out HB.out)|(with_reducible refine Kd.C_alloc ?_ _)|(with_reducible refine Kd.C_drewN ?_ _)|(with_reducible refine Kd.C_drew ?_)));(case side4=>exact HC0_2.out);rintro e w11 ⟨rfl,hb⟩;refine ⟨_,rfl,?_⟩;have n0_:=Aside0.mk (blk_below (g:=gb344) (o:=.cells #[.string a0_0,.slice A0_1 l0_1.length c0_1,.slice A0_2 l0_2.length c0_2] 56 (0,0)) (by (with_reducible repeat (first|refine blk_drewN ?_ _|refine blk_drew ?_|refine blk_alloc ?_ _));exact BK344.out) hb);have n1_:=Aside0.mk (below_step (by repeat (first|(with_reducible first|exact HB.out|apply below_alloc|apply pw_below_drewN|apply below_drew1|refine below_set ?_ GE344.out)|exact HB.out)) hb);clear BK344;clear HB;have BK344:=n0_;have HB:=n1_;clear n0_ n1_;(try clear hb);(try clear hb2);(try clear hk);(try clear hi))|(go_at_call 59;(with_reducible refine (spec_l1Domain.calls k a1 true _ A5.out).mono ?_);rintro e w12 ⟨rfl,hb⟩;have n0_:=Aside0.mk (blk_below (g:=gb344) (o:=.cells #[.string a0_0,.slice A0_1 l0_1.length c0_1,.slice A0_2 l0_2.length c0_2] 56 (0,0)) (by (with_reducible repeat (first|refine blk_drewN ?_ _|refine blk_drew ?_|refine blk_alloc ?_ _));exact BK344.out) hb);have n1_:=Aside0.mk (below_step (by repeat (first|(with_reducible first|exact HB.out|apply below_alloc|apply pw_below_drewN|apply below_drew1|refine below_set ?_ GE344.out)|exact HB.out)) hb);clear BK344;clear HB;have BK344:=n0_;have HB:=n1_;clear n0_ n1_;(try clear hb);(try clear hb2);(try clear hk);(try clear hi);have hcz13_0:w12.cell? ⟨gb344,0,none⟩=some (.string a0_0):=(blk_cell BK344.out 0).trans rfl;have hcz13_1:w12.cell? ⟨gb344,1,none⟩=some (.slice A0_1 l0_1.length c0_1):=(blk_cell BK344.out 1).trans rfl;have hcz13_2:w12.cell? ⟨gb344,2,none⟩=some (.slice A0_2 l0_2.length c0_2):=(blk_cell BK344.out 2).trans rfl;have hfz13_0:=blk_frozen BK344.out 0;have hfz13_1:=blk_frozen BK344.out 1;have hfz13_2:=blk_frozen BK344.out 2)|(go_at_call 94;(with_reducible refine (spec_l3Own.calls k a0_0 _ _ l0_1 _ _ l0_2 bz3 a1 true _ ?side1 ?side2 ?side3 ?side4 A7.out).mono ?_);(case side1=>repeat (first|exact (Kd.C_below HR0_1.out HB.out)|(with_reducible refine Kd.C_alloc ?_ _)|(with_reducible refine Kd.C_drewN ?_ _)|(with_reducible refine Kd.C_drew ?_)));(case side2=>exact HC0_1.out);(case side3=>repeat (first|exact (Kd.C_below HR0_2.out HB.out)|(with_reducible refine Kd.C_alloc ?_ _)|(with_reducible refine Kd.C_drewN ?_ _)|(with_reducible refine Kd.C_drew ?_)));(case side4=>exact HC0_2.out);rintro e w14 ⟨rfl,hb⟩;have n0_:=Aside0.mk (blk_below (g:=gb344) (o:=.cells #[.string a0_0,.slice A0_1 l0_1.length c0_1,.slice A0_2 l0_2.length c0_2] 56 (0,0)) (by (with_reducible repeat (first|refine blk_drewN ?_ _|refine blk_drew ?_|refine blk_alloc ?_ _));exact BK344.out) hb);have n1_:=Aside0.mk (below_step (by repeat (first|(with_reducible first|exact HB.out|apply below_alloc|apply pw_below_drewN|apply below_drew1|refine below_set ?_ GE344.out)|exact HB.out)) hb);clear BK344;clear HB;have BK344:=n0_;have HB:=n1_;clear n0_ n1_;(try clear hb);(try clear hb2);(try clear hk);(try clear hi)))
        go_ret
        exact ⟨by first|rfl|(simp [errW_none,errW_some]<;>rfl)|(simp [*,errW_none,errW_some]<;>rfl),by repeat (first|(with_reducible first|exact HB.out|apply below_alloc|apply pw_below_drewN|apply below_drew1|refine below_set ?_ GE344.out)|exact HB.out)⟩
      · replace c8:=Bool.eq_false_iff.mpr c8
        subst c8
        have H1:((spec_l3Way.f k a0_0 l0_1 l0_2 a1).bind fun t348=>(some t348))=some r:=by rw [if_neg (show ¬ (false=true) by decide)] at H;exact H
        clear H
        have H:=H1
        clear H1
        replace H:=Option.bind_eq_some_iff.mp H
        obtain ⟨t348,A150,H⟩:=H
        replace H:(some t348)=some r:=H
        have A15:=Aside0.mk A150
        clear A150
        obtain rfl:=Option.some.inj H
        go_enter Tryd.func52,Tryd.ntmps52
        go_wp2_with (first|((with_reducible refine gate_dst (N:=2) rfl ?_);refine box_event ?hg (N:=2) ?hd (cs:=#[.string a0_0,.slice A0_1 l0_1.length c0_1,.slice A0_2 l0_2.length c0_2]) (t:=56) ?hr ?_;(case hd=>rfl);(case hg=>rfl);(case hr=>first|(go_simp;done)|(go_simp;rfl));intro gb344 hg w16 hbox hb;have n0_:=Aside0.mk (below_step (by repeat (first|(with_reducible first|exact HB.out|apply below_alloc|apply pw_below_drewN|apply below_drew1)|exact HB.out)) hb);have n1_:=Aside0.mk (hbox);have n2_:=Aside0.mk ((by rw [hg];exact (below_size (by repeat (first|(with_reducible first|exact HB.out|apply below_alloc|apply pw_below_drewN|apply below_drew1)|exact HB.out))):w.heap.size≤gb344));have n3_:=Aside0.mk ((by rw [hg];exact (below_size (by repeat (first|(with_reducible first|exact HB.out|apply below_alloc|apply pw_below_drewN|apply below_drew1)|exact HB.out))):w.heap.size≤gb344));clear HB;have HB:=n0_;have BK344:=n1_;have GW344:=n2_;have GE344:=n3_;clear n0_ n1_ n2_ n3_;clear hb hbox hg;have hcz17_0:w16.cell? ⟨gb344,0,none⟩=some (.string a0_0):=(blk_cell BK344.out 0).trans rfl;have hcz17_1:w16.cell? ⟨gb344,1,none⟩=some (.slice A0_1 l0_1.length c0_1):=(blk_cell BK344.out 1).trans rfl;have hcz17_2:w16.cell? ⟨gb344,2,none⟩=some (.slice A0_2 l0_2.length c0_2):=(blk_cell BK344.out 2).trans rfl;have hfz17_0:=blk_frozen BK344.out 0;have hfz17_1:=blk_frozen BK344.out 1;have hfz17_2:=blk_frozen BK344.out 2)|((with_reducible refine gate_callee (f:=81) rfl ?_);refine goesL_ (some 6) rfl rfl Tryd.func81 (by kernel_rfl) rfl #[.agg #[.string a0_0,.slice A0_1 l0_1.length c0_1,.slice A0_2 l0_2.length c0_2]] rfl (by (try simp only [List.map_toArray,List.map_cons,List.map_nil]);first|done|rfl|(simp only [List.length_drop,List.length_take];rfl)) ?_;(with_reducible refine (spec_l3ConfOk.calls k a0_0 _ _ l0_1 _ _ l0_2 true _ ?side1 ?side2 ?side3 ?side4 A3.out).mono ?_);(case side1=>repeat (first|exact (Kd.C_below HR0_1.out HB.out)|(with_reducible refine Kd.C_alloc ?_ _)|(with_reducible refine Kd.C_drewN ?_ _)|(with_reducible refine Kd.C_drew ?_)));(case side2=>exact HC0_1.out);(case side3=>repeat (first|exact (Kd.C_below HR0_2.out HB.out)|(with_reducible refine Kd.C_alloc ?_ _)|(with_reducible refine Kd.C_drewN ?_ _)|(with_reducible refine Kd.C_drew ?_)));(case side4=>exact HC0_2.out);rintro e w18 ⟨rfl,hb⟩;refine ⟨_,rfl,?_⟩;have n0_:=Aside0.mk (blk_below (g:=gb344) (o:=.cells #[.string a0_0,.slice A0_1 l0_1.length c0_1,.slice A0_2 l0_2.length c0_2] 56 (0,0)) (by (with_reducible repeat (first|refine blk_drewN ?_ _|refine blk_drew ?_|refine blk_alloc ?_ _));exact BK344.out) hb);have n1_:=Aside0.mk (below_step (by repeat (first|(with_reducible first|exact HB.out|apply below_alloc|apply pw_below_drewN|apply below_drew1|refine below_set ?_ GE344.out)|exact HB.out)) hb);clear BK344;clear HB;have BK344:=n0_;have HB:=n1_;clear n0_ n1_;(try clear hb);(try clear hb2);(try clear hk);(try clear hi))|(go_at_call 59;(with_reducible refine (spec_l1Domain.calls k a1 true _ A5.out).mono ?_);rintro e w19 ⟨rfl,hb⟩;have n0_:=Aside0.mk (blk_below (g:=gb344) (o:=.cells #[.string a0_0,.slice A0_1 l0_1.length c0_1,.slice A0_2 l0_2.length c0_2] 56 (0,0)) (by (with_reducible repeat (first|refine blk_drewN ?_ _|refine blk_drew ?_|refine blk_alloc ?_ _));exact BK344.out) hb);have n1_:=Aside0.mk (below_step (by repeat (first|(with_reducible first|exact HB.out|apply below_alloc|apply pw_below_drewN|apply below_drew1|refine below_set ?_ GE344.out)|exact HB.out)) hb);clear BK344;clear HB;have BK344:=n0_;have HB:=n1_;clear n0_ n1_;(try clear hb);(try clear hb2);(try clear hk);(try clear hi);have hcz20_0:w19.cell? ⟨gb344,0,none⟩=some (.string a0_0):=(blk_cell BK344.out 0).trans rfl;have hcz20_1:w19.cell? ⟨gb344,1,none⟩=some (.slice A0_1 l0_1.length c0_1):=(blk_cell BK344.out 1).trans rfl;have hcz20_2:w19.cell? ⟨gb344,2,none⟩=some (.slice A0_2 l0_2.length c0_2):=(blk_cell BK344.out 2).trans rfl;have hfz20_0:=blk_frozen BK344.out 0;have hfz20_1:=blk_frozen BK344.out 1;have hfz20_2:=blk_frozen BK344.out 2)|(go_at_call 94;(with_reducible refine (spec_l3Own.calls k a0_0 _ _ l0_1 _ _ l0_2 bz3 a1 false _ ?side1 ?side2 ?side3 ?side4 A7.out).mono ?_);(case side1=>repeat (first|exact (Kd.C_below HR0_1.out HB.out)|(with_reducible refine Kd.C_alloc ?_ _)|(with_reducible refine Kd.C_drewN ?_ _)|(with_reducible refine Kd.C_drew ?_)));(case side2=>exact HC0_1.out);(case side3=>repeat (first|exact (Kd.C_below HR0_2.out HB.out)|(with_reducible refine Kd.C_alloc ?_ _)|(with_reducible refine Kd.C_drewN ?_ _)|(with_reducible refine Kd.C_drew ?_)));(case side4=>exact HC0_2.out);rintro e w21 ⟨rfl,hb⟩;have n0_:=Aside0.mk (blk_below (g:=gb344) (o:=.cells #[.string a0_0,.slice A0_1 l0_1.length c0_1,.slice A0_2 l0_2.length c0_2] 56 (0,0)) (by (with_reducible repeat (first|refine blk_drewN ?_ _|refine blk_drew ?_|refine blk_alloc ?_ _));exact BK344.out) hb);have n1_:=Aside0.mk (below_step (by repeat (first|(with_reducible first|exact HB.out|apply below_alloc|apply pw_below_drewN|apply below_drew1|refine below_set ?_ GE344.out)|exact HB.out)) hb);clear BK344;clear HB;have BK344:=n0_;have HB:=n1_;clear n0_ n1_;(try clear hb);(try clear hb2);(try clear hk);(try clear hi);have hcz22_0:w21.cell? ⟨gb344,0,none⟩=some (.string a0_0):=(blk_cell BK344.out 0).trans rfl;have hcz22_1:w21.cell? ⟨gb344,1,none⟩=some (.slice A0_1 l0_1.length c0_1):=(blk_cell BK344.out 1).trans rfl;have hcz22_2:w21.cell? ⟨gb344,2,none⟩=some (.slice A0_2 l0_2.length c0_2):=(blk_cell BK344.out 2).trans rfl;have hfz22_0:=blk_frozen BK344.out 0;have hfz22_1:=blk_frozen BK344.out 1;have hfz22_2:=blk_frozen BK344.out 2)|((with_reducible refine gate_callee (f:=95) rfl ?_);refine goesL_ (some 21) rfl rfl Tryd.func95 (by kernel_rfl) rfl #[.agg #[.string a0_0,.slice A0_1 l0_1.length c0_1,.slice A0_2 l0_2.length c0_2],.string a1] rfl (by (try simp only [List.map_toArray,List.map_cons,List.map_nil]);first|done|rfl|(simp only [List.length_drop,List.length_take];rfl)) ?_;(with_reducible refine (spec_l3Way.calls k a0_0 _ _ l0_1 _ _ l0_2 a1 t348 _ ?side1 ?side2 ?side3 ?side4 A15.out).mono ?_);(case side1=>repeat (first|exact (Kd.C_below HR0_1.out HB.out)|(with_reducible refine Kd.C_alloc ?_ _)|(with_reducible refine Kd.C_drewN ?_ _)|(with_reducible refine Kd.C_drew ?_)));(case side2=>exact HC0_1.out);(case side3=>repeat (first|exact (Kd.C_below HR0_2.out HB.out)|(with_reducible refine Kd.C_alloc ?_ _)|(with_reducible refine Kd.C_drewN ?_ _)|(with_reducible refine Kd.C_drew ?_)));(case side4=>exact HC0_2.out);rintro e w23 ⟨rfl,hb⟩;refine ⟨_,rfl,?_⟩;have n0_:=Aside0.mk (blk_below (g:=gb344) (o:=.cells #[.string a0_0,.slice A0_1 l0_1.length c0_1,.slice A0_2 l0_2.length c0_2] 56 (0,0)) (by (with_reducible repeat (first|refine blk_drewN ?_ _|refine blk_drew ?_|refine blk_alloc ?_ _));exact BK344.out) hb);have n1_:=Aside0.mk (below_step (by repeat (first|(with_reducible first|exact HB.out|apply below_alloc|apply pw_below_drewN|apply below_drew1|refine below_set ?_ GE344.out)|exact HB.out)) hb);clear BK344;clear HB;have BK344:=n0_;have HB:=n1_;clear n0_ n1_;(try clear hb);(try clear hb2);(try clear hk);(try clear hi)))
        go_ret
        exact ⟨by first|rfl|(simp [errW_none,errW_some]<;>rfl)|(simp [*,errW_none,errW_some]<;>rfl),by repeat (first|(with_reducible first|exact HB.out|apply below_alloc|apply pw_below_drewN|apply below_drew1|refine below_set ?_ GE344.out)|exact HB.out)⟩
    · replace c6:=Bool.eq_false_iff.mpr c6
      subst c6
      have H1:(some bz3)=some r:=by rw [if_neg (show ¬ (false=true) by decide)] at H;exact H
      clear H
      have H:=H1
      clear H1
      obtain rfl:=Option.some.inj H
      go_enter Tryd.func52,Tryd.ntmps52
      go_wp2_with (first|((with_reducible refine gate_dst (N:=2) rfl ?_);refine box_event ?hg (N:=2) ?hd (cs:=#[.string a0_0,.slice A0_1 l0_1.length c0_1,.slice A0_2 l0_2.length c0_2]) (t:=56) ?hr ?_;(case hd=>rfl);(case hg=>rfl);(case hr=>first|(go_simp;done)|(go_simp;rfl));intro gb344 hg w24 hbox hb;have n0_:=Aside0.mk (below_step (by repeat (first|(with_reducible first|exact HB.out|apply below_alloc|apply pw_below_drewN|apply below_drew1)|exact HB.out)) hb);have n1_:=Aside0.mk (hbox);have n2_:=Aside0.mk ((by rw [hg];exact (below_size (by repeat (first|(with_reducible first|exact HB.out|apply below_alloc|apply pw_below_drewN|apply below_drew1)|exact HB.out))):w.heap.size≤gb344));have n3_:=Aside0.mk ((by rw [hg];exact (below_size (by repeat (first|(with_reducible first|exact HB.out|apply below_alloc|apply pw_below_drewN|apply below_drew1)|exact HB.out))):w.heap.size≤gb344));clear HB;have HB:=n0_;have BK344:=n1_;have GW344:=n2_;have GE344:=n3_;clear n0_ n1_ n2_ n3_;clear hb hbox hg;have hcz25_0:w24.cell? ⟨gb344,0,none⟩=some (.string a0_0):=(blk_cell BK344.out 0).trans rfl;have hcz25_1:w24.cell? ⟨gb344,1,none⟩=some (.slice A0_1 l0_1.length c0_1):=(blk_cell BK344.out 1).trans rfl;have hcz25_2:w24.cell? ⟨gb344,2,none⟩=some (.slice A0_2 l0_2.length c0_2):=(blk_cell BK344.out 2).trans rfl;have hfz25_0:=blk_frozen BK344.out 0;have hfz25_1:=blk_frozen BK344.out 1;have hfz25_2:=blk_frozen BK344.out 2)|((with_reducible refine gate_callee (f:=81) rfl ?_);refine goesL_ (some 6) rfl rfl Tryd.func81 (by kernel_rfl) rfl #[.agg #[.string a0_0,.slice A0_1 l0_1.length c0_1,.slice A0_2 l0_2.length c0_2]] rfl (by (try simp only [List.map_toArray,List.map_cons,List.map_nil]);first|done|rfl|(simp only [List.length_drop,List.length_take];rfl)) ?_;(with_reducible refine (spec_l3ConfOk.calls k a0_0 _ _ l0_1 _ _ l0_2 true _ ?side1 ?side2 ?side3 ?side4 A3.out).mono ?_);(case side1=>repeat (first|exact (Kd.C_below HR0_1.out HB.out)|(with_reducible refine Kd.C_alloc ?_ _)|(with_reducible refine Kd.C_drewN ?_ _)|(with_reducible refine Kd.C_drew ?_)));(case side2=>exact HC0_1.out);(case side3=>repeat (first|exact (Kd.C_below HR0_2.out HB.out)|(with_reducible refine Kd.C_alloc ?_ _)|(with_reducible refine Kd.C_drewN ?_ _)|(with_reducible refine Kd.C_drew ?_)));(case side4=>exact HC0_2.out);rintro e w26 ⟨rfl,hb⟩;refine ⟨_,rfl,?_⟩;have n0_:=Aside0.mk (blk_below (g:=gb344) (o:=.cells #[.string a0_0,.slice A0_1 l0_1.length c0_1,.slice A0_2 l0_2.length c0_2] 56 (0,0)) (by (with_reducible repeat (first|refine blk_drewN ?_ _|refine blk_drew ?_|refine blk_alloc ?_ _));exact BK344.out) hb);have n1_:=Aside0.mk (below_step (by repeat (first|(with_reducible first|exact HB.out|apply below_alloc|apply pw_below_drewN|apply below_drew1|refine below_set ?_ GE344.out)|exact HB.out)) hb);clear BK344;clear HB;have BK344:=n0_;have HB:=n1_;clear n0_ n1_;(try clear hb);(try clear hb2);(try clear hk);(try clear hi))|(go_at_call 59;(with_reducible refine (spec_l1Domain.calls k a1 false _ A5.out).mono ?_);rintro e w27 ⟨rfl,hb⟩;have n0_:=Aside0.mk (blk_below (g:=gb344) (o:=.cells #[.string a0_0,.slice A0_1 l0_1.length c0_1,.slice A0_2 l0_2.length c0_2] 56 (0,0)) (by (with_reducible repeat (first|refine blk_drewN ?_ _|refine blk_drew ?_|refine blk_alloc ?_ _));exact BK344.out) hb);have n1_:=Aside0.mk (below_step (by repeat (first|(with_reducible first|exact HB.out|apply below_alloc|apply pw_below_drewN|apply below_drew1|refine below_set ?_ GE344.out)|exact HB.out)) hb);clear BK344;clear HB;have BK344:=n0_;have HB:=n1_;clear n0_ n1_;(try clear hb);(try clear hb2);(try clear hk);(try clear hi)))
      go_ret
      exact ⟨by first|rfl|(simp [errW_none,errW_some]<;>rfl)|(simp [*,errW_none,errW_some]<;>rfl),by repeat (first|(with_reducible first|exact HB.out|apply below_alloc|apply pw_below_drewN|apply below_drew1|refine below_set ?_ GE344.out)|exact HB.out)⟩
  · replace c4:=Bool.eq_false_iff.mpr c4
    subst c4
    have H1:(some bz3)=some r:=by rw [if_neg (show ¬ (false=true) by decide)] at H;exact H
    clear H
    have H:=H1
    clear H1
    obtain rfl:=Option.some.inj H
    go_enter Tryd.func52,Tryd.ntmps52
    go_wp2_with (first|((with_reducible refine gate_dst (N:=2) rfl ?_);refine box_event ?hg (N:=2) ?hd (cs:=#[.string a0_0,.slice A0_1 l0_1.length c0_1,.slice A0_2 l0_2.length c0_2]) (t:=56) ?hr ?_;(case hd=>rfl);(case hg=>rfl);(case hr=>first|(go_simp;done)|(go_simp;rfl));intro gb344 hg w28 hbox hb;have n0_:=Aside0.mk (below_step (by repeat (first|(with_reducible first|exact HB.out|apply below_alloc|apply pw_below_drewN|apply below_drew1)|exact HB.out)) hb);have n1_:=Aside0.mk (hbox);have n2_:=Aside0.mk ((by rw [hg];exact (below_size (by repeat (first|(with_reducible first|exact HB.out|apply below_alloc|apply pw_below_drewN|apply below_drew1)|exact HB.out))):w.heap.size≤gb344));have n3_:=Aside0.mk ((by rw [hg];exact (below_size (by repeat (first|(with_reducible first|exact HB.out|apply below_alloc|apply pw_below_drewN|apply below_drew1)|exact HB.out))):w.heap.size≤gb344));clear HB;have HB:=n0_;have BK344:=n1_;have GW344:=n2_;have GE344:=n3_;clear n0_ n1_ n2_ n3_;clear hb hbox hg;have hcz29_0:w28.cell? ⟨gb344,0,none⟩=some (.string a0_0):=(blk_cell BK344.out 0).trans rfl;have hcz29_1:w28.cell? ⟨gb344,1,none⟩=some (.slice A0_1 l0_1.length c0_1):=(blk_cell BK344.out 1).trans rfl;have hcz29_2:w28.cell? ⟨gb344,2,none⟩=some (.slice A0_2 l0_2.length c0_2):=(blk_cell BK344.out 2).trans rfl;have hfz29_0:=blk_frozen BK344.out 0;have hfz29_1:=blk_frozen BK344.out 1;have hfz29_2:=blk_frozen BK344.out 2)|((with_reducible refine gate_callee (f:=81) rfl ?_);refine goesL_ (some 6) rfl rfl Tryd.func81 (by kernel_rfl) rfl #[.agg #[.string a0_0,.slice A0_1 l0_1.length c0_1,.slice A0_2 l0_2.length c0_2]] rfl (by (try simp only [List.map_toArray,List.map_cons,List.map_nil]);first|done|rfl|(simp only [List.length_drop,List.length_take];rfl)) ?_;(with_reducible refine (spec_l3ConfOk.calls k a0_0 _ _ l0_1 _ _ l0_2 false _ ?side1 ?side2 ?side3 ?side4 A3.out).mono ?_);(case side1=>repeat (first|exact (Kd.C_below HR0_1.out HB.out)|(with_reducible refine Kd.C_alloc ?_ _)|(with_reducible refine Kd.C_drewN ?_ _)|(with_reducible refine Kd.C_drew ?_)));(case side2=>exact HC0_1.out);(case side3=>repeat (first|exact (Kd.C_below HR0_2.out HB.out)|(with_reducible refine Kd.C_alloc ?_ _)|(with_reducible refine Kd.C_drewN ?_ _)|(with_reducible refine Kd.C_drew ?_)));(case side4=>exact HC0_2.out);rintro e w30 ⟨rfl,hb⟩;refine ⟨_,rfl,?_⟩;have n0_:=Aside0.mk (blk_below (g:=gb344) (o:=.cells #[.string a0_0,.slice A0_1 l0_1.length c0_1,.slice A0_2 l0_2.length c0_2] 56 (0,0)) (by (with_reducible repeat (first|refine blk_drewN ?_ _|refine blk_drew ?_|refine blk_alloc ?_ _));exact BK344.out) hb);have n1_:=Aside0.mk (below_step (by repeat (first|(with_reducible first|exact HB.out|apply below_alloc|apply pw_below_drewN|apply below_drew1|refine below_set ?_ GE344.out)|exact HB.out)) hb);clear BK344;clear HB;have BK344:=n0_;have HB:=n1_;clear n0_ n1_;(try clear hb);(try clear hb2);(try clear hk);(try clear hi)))
    go_ret
    exact ⟨by first|rfl|(simp [errW_none,errW_some]<;>rfl)|(simp [*,errW_none,errW_some]<;>rfl),by repeat (first|(with_reducible first|exact HB.out|apply below_alloc|apply pw_below_drewN|apply below_drew1|refine below_set ?_ GE344.out)|exact HB.out)⟩
end Go.Proofs.YtpeefjfklklhdaaDoor.Q
