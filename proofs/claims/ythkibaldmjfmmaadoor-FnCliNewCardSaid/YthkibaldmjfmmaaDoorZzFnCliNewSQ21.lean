/- Of a text of ours what this claim needs. -/
import Derived.Test.YthkibaldmjfmmaaDoorZzFnCliNewSQ0
import Derived.Test.YthkibaldmjfmmaaDoorZzFnCliNewSQ6
import Derived.Test.YthkibaldmjfmmaaDoorZzFnCliNewSQ11
import Derived.Test.YthkibaldmjfmmaaDoorZzFnCliNewSQ12
import Derived.Test.YthkibaldmjfmmaaDoorZzFnCliNewSQ18
import Derived.Test.YthkibaldmjfmmaaDoorZzFnCliNewSQ20
import Derived.Test.YthkibaldmjfmmaaDoorZzFnCliNewSHOuts
import Derived.Test.YthkibaldmjfmmaaDoorZzFnCliNewSHSplit
namespace Go.Proofs.YthkibaldmjfmmaaDoor.Q
open Go.RowKit Go.Proofs.YthkibaldmjfmmaaDoorW.PrintWords Go.Proofs.YthkibaldmjfmmaaDoorW.PrintLast Go.Proofs.YthkibaldmjfmmaaDoorW.PrintMore
attribute [local go_sem] max2_int min2_int max_two min_two max_three min_three max_four min_four
set_option linter.unusedVariables false
set_option linter.unusedSimpArgs false
mutual
def laws_FnCliNew.j0:Nat→ByteArray→Bool→ByteArray→ByteArray→List (S30)→List ByteArray→ByteArray→ByteArray→ByteArray→List (S30)→List ByteArray→Int→Int→List Int→Option (Bool)
 | 0,_,_,_,_,_,_,_,_,_,_,_,_,_,_=>none
 | k+1,x3,x29,x111000,x111001,x111002,x111003,x126000,x126001,x126002,x126003,x126004,x126005,x126006,x126007=>if x29=true then ((spec_CliNew.f k x3 x111000 x111001 x111002 x111003).bind fun bt141=>((laws_saCli.f k x126000 x126001 x126002 x126003 x126004 x126005 x126006 x126007 bt141.1 bt141.2.1 bt141.2.2.1 bt141.2.2.2.1 bt141.2.2.2.2.1 bt141.2.2.2.2.2.1 bt141.2.2.2.2.2.2.1 bt141.2.2.2.2.2.2.2).bind fun t155=>(some t155))) else ((impl_CliOuts.f k x126000 x126001 x126002 x126003 x126004 x126005 x126006 x126007).bind fun t156=>(laws_FnCliNew.l0 k t156 0 x111000 x111001 x111002 x111003 x126000 x126001 x126002 x126003 x126004 x126005 x126006 x126007))
def laws_FnCliNew.l0:Nat→List Int→Int→ByteArray→ByteArray→List (S30)→List ByteArray→ByteArray→ByteArray→ByteArray→List (S30)→List ByteArray→Int→Int→List Int→Option (Bool)
 | 0,_,_,_,_,_,_,_,_,_,_,_,_,_,_=>none
 | k+1,x6,x7,x111000,x111001,x111002,x111003,x126000,x126001,x126002,x126003,x126004,x126005,x126006,x126007=>if x7 < (x6.length:Int) then (if 0≤x7 then (if (rd x6 x7)=3 then (laws_FnCliNew.l0 k x6 (wrap64 (x7+1)) x111000 x111001 x111002 x111003 x126000 x126001 x126002 x126003 x126004 x126005 x126006 x126007) else (some false)) else (none)) else ((impl_CliOk.f k x126000 x126001 x126002 x126003 x126004 x126005 x126006 x126007).bind fun t160=>(if t160=true then (some ((x6.length:Int)==(x111002.length:Int))) else (some false)))
end
def laws_FnCliNew.f (k:Nat) (l0:List Int):Option (Bool):=if (l0.length:Int) > 1048576 then (some true) else ((spec_DrawCliNew.f k l0).bind fun bt101=>((impl_CliNew.f k bt101.1 bt101.2.1 bt101.2.2.1 bt101.2.2.2.1 bt101.2.2.2.2).bind fun bt111=>((spec_CliNew.f k bt101.1 bt101.2.1 bt101.2.2.1 bt101.2.2.2.1 bt101.2.2.2.2).bind fun bt126=>((laws_saCli.f k bt111.1 bt111.2.1 bt111.2.2.1 bt111.2.2.2.1 bt111.2.2.2.2.1 bt111.2.2.2.2.2.1 bt111.2.2.2.2.2.2.1 bt111.2.2.2.2.2.2.2 bt126.1 bt126.2.1 bt126.2.2.1 bt126.2.2.2.1 bt126.2.2.2.2.1 bt126.2.2.2.2.2.1 bt126.2.2.2.2.2.2.1 bt126.2.2.2.2.2.2.2).bind fun t140=>(if t140=true then (laws_FnCliNew.j0 k bt101.1 (bt111.1.toList==([]:List UInt8)) bt101.2.1 bt101.2.2.1 bt101.2.2.2.1 bt101.2.2.2.2 bt111.1 bt111.2.1 bt111.2.2.1 bt111.2.2.2.1 bt111.2.2.2.2.1 bt111.2.2.2.2.2.1 bt111.2.2.2.2.2.2.1 bt111.2.2.2.2.2.2.2) else (laws_FnCliNew.j0 k bt101.1 true bt101.2.1 bt101.2.2.1 bt101.2.2.2.1 bt101.2.2.2.2 bt111.1 bt111.2.1 bt111.2.2.1 bt111.2.2.2.1 bt111.2.2.2.2.1 bt111.2.2.2.2.2.1 bt111.2.2.2.2.2.2.1 bt111.2.2.2.2.2.2.2))))))
def laws_FnCliNew.T5:Bool × List (List Nat × List Nat):=(true,[([],[]),([],[]),([],[]),([1,2],[1,2]),([0,3,3],[0,3]),([4],[4]),([5,4],[5]),([6],[6]),([7,6],[6,7]),([8,6],[6,8]),([6,9],[6,9])])
def laws_FnCliNew.B5:List Nat:=[0,0,0,6,15,31,63,127,255,511,1023]
theorem laws_FnCliNew.tab5:rtab .any (opsOf Tryd.f8 5)=laws_FnCliNew.T5:=by kernel_rfl
theorem laws_FnCliNew.bits5:waitsOk laws_FnCliNew.T5.2 laws_FnCliNew.B5=true:=by kernel_rfl
set_option maxHeartbeats 8000000 in
set_option maxRecDepth 100000 in
theorem laws_FnCliNew.calls (k:Nat) (A0:Option Addr) (c0:Nat) (l0:List Int) (r:Bool) (w:World) (hr0:Kd.C (Kd.int .u8) w A0 l0.length l0) (hc0:l0.length≤c0) (hG:GOK w) (h:laws_FnCliNew.f k l0=some r) :
 Calls Tryd.prog 8 #[.slice A0 l0.length c0] w fun e w'=>e=.returned (.bool r)∧Below w.heap.size w w':=by
 have hu33:=Tryd.underlying33
 have hu67:=Tryd.underlying67
 have HR0:=zA hr0
 have HC0:=zA hc0
 clear hr0 hc0
 have HG:=zA hG
 clear hG
 have HB:=zA (Below.refl w.heap.size w)
 have H:(if (l0.length:Int) > 1048576 then (some true) else ((spec_DrawCliNew.f k l0).bind fun bt101=>((impl_CliNew.f k bt101.1 bt101.2.1 bt101.2.2.1 bt101.2.2.2.1 bt101.2.2.2.2).bind fun bt111=>((spec_CliNew.f k bt101.1 bt101.2.1 bt101.2.2.1 bt101.2.2.2.1 bt101.2.2.2.2).bind fun bt126=>((laws_saCli.f k bt111.1 bt111.2.1 bt111.2.2.1 bt111.2.2.2.1 bt111.2.2.2.2.1 bt111.2.2.2.2.2.1 bt111.2.2.2.2.2.2.1 bt111.2.2.2.2.2.2.2 bt126.1 bt126.2.1 bt126.2.2.1 bt126.2.2.2.1 bt126.2.2.2.2.1 bt126.2.2.2.2.2.1 bt126.2.2.2.2.2.2.1 bt126.2.2.2.2.2.2.2).bind fun t140=>(if t140=true then (laws_FnCliNew.j0 k bt101.1 (bt111.1.toList==([]:List UInt8)) bt101.2.1 bt101.2.2.1 bt101.2.2.2.1 bt101.2.2.2.2 bt111.1 bt111.2.1 bt111.2.2.1 bt111.2.2.2.1 bt111.2.2.2.2.1 bt111.2.2.2.2.2.1 bt111.2.2.2.2.2.2.1 bt111.2.2.2.2.2.2.2) else (laws_FnCliNew.j0 k bt101.1 true bt101.2.1 bt101.2.2.1 bt101.2.2.2.1 bt101.2.2.2.2 bt111.1 bt111.2.1 bt111.2.2.1 bt111.2.2.2.1 bt111.2.2.2.2.1 bt111.2.2.2.2.2.1 bt111.2.2.2.2.2.2.1 bt111.2.2.2.2.2.2.2)))))))=some r:=h
 clear h
 by_cases c2:(l0.length:Int) > 1048576
 ·rw [if_pos c2] at H
  have c2b0:decide (1048576 < (l0.length:Int))=true:=decide_eq_true c2
  have c2b1:decide (1048576 < l0.length)=true:=decide_eq_true (by omega)
  clear c2
  obtain rfl:=Option.some.inj H
  go_enter Tryd.func8,Tryd.ntmps8
  go_wp2
  go_ret
  exact ⟨by first|rfl|(simp [zq16,zq17]<;>rfl)|(simp [*,zq16,zq17]<;>rfl)|(simp [*,zq16,zq17];cases t111.toList<;>rfl),by repeat (first|(with_reducible first|exact HB.out|apply zq4|apply zq0|apply zq3)|exact HB.out)⟩
 ·rw [if_neg c2] at H
  have c2b0:decide (1048576 < (l0.length:Int))=false:=decide_eq_false c2
  have c2b1:decide (1048576 < l0.length)=false:=decide_eq_false (by omega)
  clear c2
  replace H:=Option.bind_eq_some_iff.mp H
  obtain ⟨⟨t101,t102,t103,t104,t107⟩,A30,H⟩:=H
  replace H:((impl_CliNew.f k t101 t102 t103 t104 t107).bind fun bt111=>((spec_CliNew.f k t101 t102 t103 t104 t107).bind fun bt126=>((laws_saCli.f k bt111.1 bt111.2.1 bt111.2.2.1 bt111.2.2.2.1 bt111.2.2.2.2.1 bt111.2.2.2.2.2.1 bt111.2.2.2.2.2.2.1 bt111.2.2.2.2.2.2.2 bt126.1 bt126.2.1 bt126.2.2.1 bt126.2.2.2.1 bt126.2.2.2.2.1 bt126.2.2.2.2.2.1 bt126.2.2.2.2.2.2.1 bt126.2.2.2.2.2.2.2).bind fun t140=>(if t140=true then (laws_FnCliNew.j0 k t101 (bt111.1.toList==([]:List UInt8)) t102 t103 t104 t107 bt111.1 bt111.2.1 bt111.2.2.1 bt111.2.2.2.1 bt111.2.2.2.2.1 bt111.2.2.2.2.2.1 bt111.2.2.2.2.2.2.1 bt111.2.2.2.2.2.2.2) else (laws_FnCliNew.j0 k t101 true t102 t103 t104 t107 bt111.1 bt111.2.1 bt111.2.2.1 bt111.2.2.2.1 bt111.2.2.2.2.1 bt111.2.2.2.2.2.1 bt111.2.2.2.2.2.2.1 bt111.2.2.2.2.2.2.2)))))=some r:=H
  have A3:=zA A30
  clear A30
  replace H:=Option.bind_eq_some_iff.mp H
  obtain ⟨⟨t111,t112,t113,t114,t117,t120,t121,t122⟩,A40,H⟩:=H
  replace H:((spec_CliNew.f k t101 t102 t103 t104 t107).bind fun bt126=>((laws_saCli.f k t111 t112 t113 t114 t117 t120 t121 t122 bt126.1 bt126.2.1 bt126.2.2.1 bt126.2.2.2.1 bt126.2.2.2.2.1 bt126.2.2.2.2.2.1 bt126.2.2.2.2.2.2.1 bt126.2.2.2.2.2.2.2).bind fun t140=>(if t140=true then (laws_FnCliNew.j0 k t101 (t111.toList==([]:List UInt8)) t102 t103 t104 t107 t111 t112 t113 t114 t117 t120 t121 t122) else (laws_FnCliNew.j0 k t101 true t102 t103 t104 t107 t111 t112 t113 t114 t117 t120 t121 t122))))=some r:=H
  have A4:=zA A40
  clear A40
  have HC5:=zA H
  clear H
  go_enter Tryd.func8,Tryd.ntmps8
  go_upto_region 5 with (first|((with_reducible refine zq19 (f:=34) rfl ?_);refine goesL_ (some 13) rfl rfl Tryd.func34 (by kernel_rfl) rfl #[.slice A0 l0.length c0] rfl (by (try simp only [zL3,zL4,zL5]);first|done|rfl|(simp only [zL6,zL7];rfl)) ?_;(with_reducible refine (spec_DrawCliNew.calls k _ _ l0 t101 t102 t103 t104 t107 _ ?side1 ?side2 A3.out).mono ?_);(case side1=>repeat (first|exact HR0.out|(with_reducible refine Kd.z0 ?_ _)|(with_reducible refine Kd.z3 ?_ _)|(with_reducible refine Kd.z2 ?_)));(case side2=>exact HC0.out);rintro e w6 ⟨v105,v108,rfl,ho0,ho1,hb⟩;refine ⟨_,rfl,?_⟩;have n0_:=zA (Kd.z10 ho0 (zq14 (by repeat (first|(with_reducible first|exact HB.out|apply zq4|apply zq0|apply zq3)|exact HB.out))));have n1_:=zA (Kd.z10 ho1 (zq14 (by repeat (first|(with_reducible first|exact HB.out|apply zq4|apply zq0|apply zq3)|exact HB.out))));have n2_:=zA (zq11 (by repeat (first|(with_reducible first|exact HB.out|apply zq4|apply zq0|apply zq3)|exact HB.out)) hb);clear HB;have HO106:=n0_;have HO109:=n1_;have HB:=n2_;clear n0_ n1_ n2_;(try clear hb);(try clear hk);(try clear ho0);(try clear ho1))|((with_reducible refine zq21 (N:=4) rfl ?_);(try (refine gate_guard (by rfl) ?_;dsimp only));refine zq23 ?hg (N:=4) ?hd (cs:=#[.string bz0,.string bz0,.slice none 0 0,.slice none 0 0]) (t:=33) ?hr ?_;(case hd=>rfl);(case hg=>rfl);(case hr=>first|(go_simp;done)|(go_simp;rfl));intro gb110 hg w7 hbox hb;have n0_:=zA (Kd.z5 (by (with_reducible repeat (first|apply Kd.z4|apply Kd.z7|apply Kd.z6));exact HO106.out) hb);have n1_:=zA (Kd.z5 (by (with_reducible repeat (first|apply Kd.z4|apply Kd.z7|apply Kd.z6));exact HO109.out) hb);have n2_:=zA (zq11 (by repeat (first|(with_reducible first|exact HB.out|apply zq4|apply zq0|apply zq3)|exact HB.out)) hb);have n3_:=zA (hbox);have n4_:=zA ((by rw [hg];exact (zq14 (by repeat (first|(with_reducible first|exact HB.out|apply zq4|apply zq0|apply zq3)|exact HB.out))):w.heap.size≤gb110));have n5_:=zA ((by rw [hg];exact (zq14 (by repeat (first|(with_reducible first|exact HB.out|apply zq4|apply zq0|apply zq3)|exact HB.out))):w.heap.size≤gb110));clear HO106;clear HO109;clear HB;have HO106:=n0_;have HO109:=n1_;have HB:=n2_;have BK110:=n3_;have GW110:=n4_;have GE110:=n5_;clear n0_ n1_ n2_ n3_ n4_ n5_;clear hb hbox hg;have hcz8_0:w7.cell? ⟨gb110,0,none⟩=some (.string bz0):=zq1 BK110.out 0;have hcz8_1:w7.cell? ⟨gb110,1,none⟩=some (.string bz0):=zq1 BK110.out 1;have hcz8_2:w7.cell? ⟨gb110,2,none⟩=some (.slice none 0 0):=zq1 BK110.out 2;have hcz8_3:w7.cell? ⟨gb110,3,none⟩=some (.slice none 0 0):=zq1 BK110.out 3;have hfz8_0:=zq7 BK110.out 0;have hfz8_1:=zq7 BK110.out 1;have hfz8_2:=zq7 BK110.out 2;have hfz8_3:=zq7 BK110.out 3;obtain ⟨Ao9,co9,eo9⟩:=Kd.z13 HO106.out;subst eo9;obtain ⟨Ao10,co10,eo10⟩:=Kd.z13 HO109.out;subst eo10)|((with_reducible refine zq19 (f:=35) rfl ?_);refine goesL_ (some 18) rfl rfl Tryd.func35 (by kernel_rfl) rfl #[.string t101,.agg #[.string t102,.string t103,.slice Ao9 t104.length co9,.slice Ao10 t107.length co10]] rfl (by (try simp only [zL3,zL4,zL5]);first|done|rfl|(simp only [zL6,zL7];rfl)) ?_;(with_reducible refine (impl_CliNew.calls k t101 t102 t103 _ _ t104 _ _ t107 t111 t112 t113 t114 t117 t120 t121 t122 _ ?side1 ?side2 ?side3 ?side4 ?side5 A4.out).mono ?_);(case side1=>refine (Kd.z12 (e:=30) (base:=w.heap.size) (ok:=fun k_=>True) (n:=t104.length) (c:=co9) ?_).2.2;exact (by (with_reducible repeat (first|apply Kd.z4|apply Kd.z7|apply Kd.z6));exact (Kd.z11 (Kd.z8 (p:=⟨gb110,3,none⟩) (Kd.z8 (p:=⟨gb110,2,none⟩) (Kd.z8 (p:=⟨gb110,1,none⟩) (Kd.z8 (p:=⟨gb110,0,none⟩) (Kd.z14 HO106.out BK110.out (by decide)) (fun _ hk=>hk.2) (.string t102)) (fun _ hk=>hk.2) (.string t103)) (fun _ hk=>hk.2) (.slice Ao9 t104.length co9)) (fun _ hk=>hk.2) (.slice Ao10 t107.length co10)) (fun _ h_=>h_.1))));(case side2=>exact (Kd.z12 HO106.out).2.1);(case side3=>refine (Kd.z12 (e:=9) (base:=w.heap.size) (ok:=fun k_=>True) (n:=t107.length) (c:=co10) ?_).2.2;exact (by (with_reducible repeat (first|apply Kd.z4|apply Kd.z7|apply Kd.z6));exact (Kd.z11 (Kd.z8 (p:=⟨gb110,3,none⟩) (Kd.z8 (p:=⟨gb110,2,none⟩) (Kd.z8 (p:=⟨gb110,1,none⟩) (Kd.z8 (p:=⟨gb110,0,none⟩) (Kd.z14 HO109.out BK110.out (by decide)) (fun _ hk=>hk.2) (.string t102)) (fun _ hk=>hk.2) (.string t103)) (fun _ hk=>hk.2) (.slice Ao9 t104.length co9)) (fun _ hk=>hk.2) (.slice Ao10 t107.length co10)) (fun _ h_=>h_.1))));(case side4=>exact (Kd.z12 HO109.out).2.1);(case side5=>first|(with_reducible exact HG.out)|((with_reducible repeat (first|exact HG.out|apply GOK.drewN|apply GOK.drew));done)|exact GOK.below HG.out (by repeat (first|(with_reducible first|exact HB.out|apply zq4|apply zq0|apply zq3|refine zq2 ?_ GE110.out)|exact HB.out)));rintro e w11 ⟨v115,v118,v123,rfl,ho0,ho1,ho2,hb⟩;refine ⟨_,rfl,?_⟩;have n0_:=zA (Kd.R_elder' (by (with_reducible repeat (first|apply Kd.z4|apply Kd.z7|apply Kd.z6));exact (Kd.z11 (Kd.z8 (p:=⟨gb110,3,none⟩) (Kd.z8 (p:=⟨gb110,2,none⟩) (Kd.z8 (p:=⟨gb110,1,none⟩) (Kd.z8 (p:=⟨gb110,0,none⟩) (Kd.z14 HO106.out BK110.out (by decide)) (fun _ hk=>hk.2) (.string t102)) (fun _ hk=>hk.2) (.string t103)) (fun _ hk=>hk.2) (.slice Ao9 t104.length co9)) (fun _ hk=>hk.2) (.slice Ao10 t107.length co10)) (fun _ h_=>h_.1))) (Kd.R_base ho0) hb);have n1_:=zA (Kd.R_elder' (by (with_reducible repeat (first|apply Kd.z4|apply Kd.z7|apply Kd.z6));exact (Kd.z11 (Kd.z8 (p:=⟨gb110,3,none⟩) (Kd.z8 (p:=⟨gb110,2,none⟩) (Kd.z8 (p:=⟨gb110,1,none⟩) (Kd.z8 (p:=⟨gb110,0,none⟩) (Kd.z14 HO109.out BK110.out (by decide)) (fun _ hk=>hk.2) (.string t102)) (fun _ hk=>hk.2) (.string t103)) (fun _ hk=>hk.2) (.slice Ao9 t104.length co9)) (fun _ hk=>hk.2) (.slice Ao10 t107.length co10)) (fun _ h_=>h_.1))) (Kd.R_base ho1) hb);have n2_:=zA (Kd.z10 (Kd.R_new' ho0 (Kd.R_lt (by (with_reducible repeat (first|apply Kd.z4|apply Kd.z7|apply Kd.z6));exact (Kd.z11 (Kd.z8 (p:=⟨gb110,3,none⟩) (Kd.z8 (p:=⟨gb110,2,none⟩) (Kd.z8 (p:=⟨gb110,1,none⟩) (Kd.z8 (p:=⟨gb110,0,none⟩) (Kd.z14 HO106.out BK110.out (by decide)) (fun _ hk=>hk.2) (.string t102)) (fun _ hk=>hk.2) (.string t103)) (fun _ hk=>hk.2) (.slice Ao9 t104.length co9)) (fun _ hk=>hk.2) (.slice Ao10 t107.length co10)) (fun _ h_=>h_.1))))) (zq14 (by repeat (first|(with_reducible first|exact HB.out|apply zq4|apply zq0|apply zq3|refine zq2 ?_ GE110.out)|exact HB.out))));have n3_:=zA (Kd.z10 (Kd.R_new' ho1 (Kd.R_lt (by (with_reducible repeat (first|apply Kd.z4|apply Kd.z7|apply Kd.z6));exact (Kd.z11 (Kd.z8 (p:=⟨gb110,3,none⟩) (Kd.z8 (p:=⟨gb110,2,none⟩) (Kd.z8 (p:=⟨gb110,1,none⟩) (Kd.z8 (p:=⟨gb110,0,none⟩) (Kd.z14 HO109.out BK110.out (by decide)) (fun _ hk=>hk.2) (.string t102)) (fun _ hk=>hk.2) (.string t103)) (fun _ hk=>hk.2) (.slice Ao9 t104.length co9)) (fun _ hk=>hk.2) (.slice Ao10 t107.length co10)) (fun _ h_=>h_.1))))) (zq14 (by repeat (first|(with_reducible first|exact HB.out|apply zq4|apply zq0|apply zq3|refine zq2 ?_ GE110.out)|exact HB.out))));have n4_:=zA (Kd.z10 ho2 (zq14 (by repeat (first|(with_reducible first|exact HB.out|apply zq4|apply zq0|apply zq3|refine zq2 ?_ GE110.out)|exact HB.out))));have n5_:=zA (zq13 (g:=gb110) (o:=.cells #[.string t102,.string t103,.slice Ao9 t104.length co9,.slice Ao10 t107.length co10] 33 (0,0)) (by (with_reducible repeat (first|refine zq6 ?_ _|refine zq8 ?_|refine zq5 ?_ _));refine zq18 (cs:=#[.string t102,.string t103,.slice Ao9 t104.length co9,.slice none 0 0]) ?_ 3 _ rfl;(with_reducible repeat (first|refine zq6 ?_ _|refine zq8 ?_|refine zq5 ?_ _));refine zq18 (cs:=#[.string t102,.string t103,.slice none 0 0,.slice none 0 0]) ?_ 2 _ rfl;(with_reducible repeat (first|refine zq6 ?_ _|refine zq8 ?_|refine zq5 ?_ _));refine zq18 (cs:=#[.string t102,.string bz0,.slice none 0 0,.slice none 0 0]) ?_ 1 _ rfl;(with_reducible repeat (first|refine zq6 ?_ _|refine zq8 ?_|refine zq5 ?_ _));refine zq18 (cs:=#[.string bz0,.string bz0,.slice none 0 0,.slice none 0 0]) ?_ 0 _ rfl;(with_reducible repeat (first|refine zq6 ?_ _|refine zq8 ?_|refine zq5 ?_ _));exact BK110.out) hb);have n6_:=zA (zq11 (by repeat (first|(with_reducible first|exact HB.out|apply zq4|apply zq0|apply zq3|refine zq2 ?_ GE110.out)|exact HB.out)) hb);clear HO106;clear HO109;clear BK110;clear HB;have HO106:=n0_;have HO109:=n1_;have HO116:=n2_;have HO119:=n3_;have HO124:=n4_;have BK110:=n5_;have HB:=n6_;clear n0_ n1_ n2_ n3_ n4_ n5_ n6_;(try clear hb);(try clear hk);(try clear ho0);(try clear ho1);(try clear ho2))|((with_reducible refine zq21 (N:=5) rfl ?_);(try (refine gate_guard (by rfl) ?_;dsimp only));refine zq23 ?hg (N:=5) ?hd (cs:=#[.string bz0,.string bz0,.string bz0,.slice none 0 0,.slice none 0 0,.int .i64 0,.int .i64 0,.slice none 0 0]) (t:=67) ?hr ?_;(case hd=>rfl);(case hg=>rfl);(case hr=>first|(go_simp;done)|(go_simp;rfl));intro gb125 hg w12 hbox hb;have n0_:=zA (Kd.z5 (by (with_reducible repeat (first|apply Kd.z4|apply Kd.z7|apply Kd.z6));exact HO106.out) hb);have n1_:=zA (Kd.z5 (by (with_reducible repeat (first|apply Kd.z4|apply Kd.z7|apply Kd.z6));exact HO109.out) hb);have n2_:=zA (Kd.z5 (by (with_reducible repeat (first|apply Kd.z4|apply Kd.z7|apply Kd.z6));exact HO116.out) hb);have n3_:=zA (Kd.z5 (by (with_reducible repeat (first|apply Kd.z4|apply Kd.z7|apply Kd.z6));exact HO119.out) hb);have n4_:=zA (Kd.z5 (by (with_reducible repeat (first|apply Kd.z4|apply Kd.z7|apply Kd.z6));exact HO124.out) hb);have n5_:=zA (zq13 (by (with_reducible repeat (first|refine zq6 ?_ _|refine zq8 ?_|refine zq5 ?_ _));exact BK110.out) hb);have n6_:=zA (zq11 (by repeat (first|(with_reducible first|exact HB.out|apply zq4|apply zq0|apply zq3|refine zq2 ?_ GE110.out)|exact HB.out)) hb);have n7_:=zA (hbox);have n8_:=zA ((by rw [hg];exact (zq14 (by repeat (first|(with_reducible first|exact HB.out|apply zq4|apply zq0|apply zq3|refine zq2 ?_ GE110.out)|exact HB.out))):w.heap.size≤gb125));have n9_:=zA ((by rw [hg];exact (zq14 (by repeat (first|(with_reducible first|exact HB.out|apply zq4|apply zq0|apply zq3|refine zq2 ?_ GE110.out)|exact HB.out))):w.heap.size≤gb125));have n10_:=zA ((by rw [hg];exact Nat.ne_of_lt (zq25 (by (with_reducible repeat (first|refine zq6 ?_ _|refine zq8 ?_|refine zq5 ?_ _));exact BK110.out)):gb110≠gb125));have n11_:=zA ((by rw [hg];exact Nat.ne_of_gt (zq25 (by (with_reducible repeat (first|refine zq6 ?_ _|refine zq8 ?_|refine zq5 ?_ _));exact BK110.out)):gb125≠gb110));clear HO106;clear HO109;clear HO116;clear HO119;clear HO124;clear BK110;clear HB;have HO106:=n0_;have HO109:=n1_;have HO116:=n2_;have HO119:=n3_;have HO124:=n4_;have BK110:=n5_;have HB:=n6_;have BK125:=n7_;have GW125:=n8_;have GE125:=n9_;have NB110_125:=n10_;have NB125_110:=n11_;clear n0_ n1_ n2_ n3_ n4_ n5_ n6_ n7_ n8_ n9_ n10_ n11_;clear hb hbox hg;have hnb13:=NB125_110.out;have hnc13:=NB110_125.out;have hcz14_0:w12.cell? ⟨gb125,0,none⟩=some (.string bz0):=zq1 BK125.out 0;have hcz14_1:w12.cell? ⟨gb125,1,none⟩=some (.string bz0):=zq1 BK125.out 1;have hcz14_2:w12.cell? ⟨gb125,2,none⟩=some (.string bz0):=zq1 BK125.out 2;have hcz14_3:w12.cell? ⟨gb125,3,none⟩=some (.slice none 0 0):=zq1 BK125.out 3;have hcz14_4:w12.cell? ⟨gb125,4,none⟩=some (.slice none 0 0):=zq1 BK125.out 4;have hcz14_5:w12.cell? ⟨gb125,5,none⟩=some (.int .i64 0):=zq1 BK125.out 5;have hcz14_6:w12.cell? ⟨gb125,6,none⟩=some (.int .i64 0):=zq1 BK125.out 6;have hcz14_7:w12.cell? ⟨gb125,7,none⟩=some (.slice none 0 0):=zq1 BK125.out 7;have hfz14_0:=zq7 BK125.out 0;have hfz14_1:=zq7 BK125.out 1;have hfz14_2:=zq7 BK125.out 2;have hfz14_3:=zq7 BK125.out 3;have hfz14_4:=zq7 BK125.out 4;have hfz14_5:=zq7 BK125.out 5;have hfz14_6:=zq7 BK125.out 6;have hfz14_7:=zq7 BK125.out 7;obtain ⟨Ao15,co15,eo15⟩:=Kd.z13 HO116.out;subst eo15;obtain ⟨Ao16,co16,eo16⟩:=Kd.z13 HO119.out;subst eo16;obtain ⟨Ao17,co17,eo17⟩:=Kd.z13 HO124.out;subst eo17))
  (try simp only [Act.put,zL0,zL1,zL2])
  go_cut [29] (fun v29 wc=>∃ (kq:Nat) (x29_4:Bool),v29=.bool x29_4∧Aside0 (laws_FnCliNew.j0 kq t101 x29_4 t102 t103 t104 t107 t111 t112 t113 t114 t117 t120 t121 t122=some r)∧Aside0 (kq≤k)∧Aside0 (Kd.R k30 30 wc w.heap.size (fun k_=>some k_≠((.slice Ao15 t114.length co15):Value).ownBlock) (.slice Ao9 t104.length co9) t104)∧Aside0 (Kd.R Kd.string 9 wc w.heap.size (fun k_=>some k_≠((.slice Ao16 t117.length co16):Value).ownBlock) (.slice Ao10 t107.length co10) t107)∧Aside0 (Kd.R k30 30 wc w.heap.size (fun k_=>some k_≠((.slice Ao9 t104.length co9):Value).ownBlock) (.slice Ao15 t114.length co15) t114)∧Aside0 (Kd.R Kd.string 9 wc w.heap.size (fun k_=>some k_≠((.slice Ao10 t107.length co10):Value).ownBlock) (.slice Ao16 t117.length co16) t117)∧Aside0 (Kd.R (Kd.int .i64) 3 wc w.heap.size (fun _=>True) (.slice Ao17 t122.length co17) t122)∧Aside0 (wc.heap[gb110]?=some (.cells #[.string t102,.string t103,(.slice Ao9 t104.length co9),(.slice Ao10 t107.length co10)] 33 (0,0)))∧Aside0 (wc.heap[gb125]?=some (.cells #[.string t111,.string t112,.string t113,(.slice Ao15 t114.length co15),(.slice Ao16 t117.length co16),.int .i64 t120,.int .i64 t121,(.slice Ao17 t122.length co17)] 67 (0,0)))∧Aside0 (Below w.heap.size w wc))
  case first =>
   have H:=HC5.out
   clear HC5
   replace H:=Option.bind_eq_some_iff.mp H
   obtain ⟨⟨t126,t127,t128,t129,t132,t135,t136,t137⟩,A180,H⟩:=H
   replace H:((laws_saCli.f k t111 t112 t113 t114 t117 t120 t121 t122 t126 t127 t128 t129 t132 t135 t136 t137).bind fun t140=>(if t140=true then (laws_FnCliNew.j0 k t101 (t111.toList==([]:List UInt8)) t102 t103 t104 t107 t111 t112 t113 t114 t117 t120 t121 t122) else (laws_FnCliNew.j0 k t101 true t102 t103 t104 t107 t111 t112 t113 t114 t117 t120 t121 t122)))=some r:=H
   have A18:=zA A180
   clear A180
   replace H:=Option.bind_eq_some_iff.mp H
   obtain ⟨t140,A190,H⟩:=H
   replace H:(if t140=true then (laws_FnCliNew.j0 k t101 (t111.toList==([]:List UInt8)) t102 t103 t104 t107 t111 t112 t113 t114 t117 t120 t121 t122) else (laws_FnCliNew.j0 k t101 true t102 t103 t104 t107 t111 t112 t113 t114 t117 t120 t121 t122))=some r:=H
   have A19:=zA A190
   clear A190
   by_cases c20:t140=true
   ·subst c20
    have H1:(laws_FnCliNew.j0 k t101 (t111.toList==([]:List UInt8)) t102 t103 t104 t107 t111 t112 t113 t114 t117 t120 t121 t122)=some r:=by rw [if_pos rfl] at H;exact H
    clear H
    have H:=H1
    clear H1
    have H':=zA H
    clear H
    try go_wp2
    have n0_:Aside0 (Kd.R k30 30 ((((((((w12.setCell ⟨gb125,0,none⟩ (.string t111)).setCell ⟨gb125,1,none⟩ (.string t112)).setCell ⟨gb125,2,none⟩ (.string t113)).setCell ⟨gb125,3,none⟩ (.slice Ao15 t114.length co15)).setCell ⟨gb125,4,none⟩ (.slice Ao16 t117.length co16)).setCell ⟨gb125,5,none⟩ (.int .i64 t120)).setCell ⟨gb125,6,none⟩ (.int .i64 t121)).setCell ⟨gb125,7,none⟩ (.slice Ao17 t122.length co17)) w.heap.size (fun k_=>some k_≠(.slice Ao15 t114.length co15:Value).ownBlock) (.slice Ao9 t104.length co9) t104):=⟨by (with_reducible repeat (first|apply Kd.z4|apply Kd.z7|apply Kd.z6));exact Kd.z11 (Kd.z8 (p:=⟨gb125,7,none⟩) (Kd.z8 (p:=⟨gb125,6,none⟩) (Kd.z8 (p:=⟨gb125,5,none⟩) (Kd.z8 (p:=⟨gb125,4,none⟩) (Kd.z8 (p:=⟨gb125,3,none⟩) (Kd.z8 (p:=⟨gb125,2,none⟩) (Kd.z8 (p:=⟨gb125,1,none⟩) (Kd.z8 (p:=⟨gb125,0,none⟩) (Kd.z14 HO106.out BK125.out (by decide)) (fun _ hk=>hk.2) (.string t111)) (fun _ hk=>hk.2) (.string t112)) (fun _ hk=>hk.2) (.string t113)) (fun _ hk=>hk.2) (.slice Ao15 t114.length co15)) (fun _ hk=>hk.2) (.slice Ao16 t117.length co16)) (fun _ hk=>hk.2) (.int .i64 t120)) (fun _ hk=>hk.2) (.int .i64 t121)) (fun _ hk=>hk.2) (.slice Ao17 t122.length co17)) (fun _ hk=>hk.1.2)⟩
    have n1_:Aside0 (Kd.R Kd.string 9 ((((((((w12.setCell ⟨gb125,0,none⟩ (.string t111)).setCell ⟨gb125,1,none⟩ (.string t112)).setCell ⟨gb125,2,none⟩ (.string t113)).setCell ⟨gb125,3,none⟩ (.slice Ao15 t114.length co15)).setCell ⟨gb125,4,none⟩ (.slice Ao16 t117.length co16)).setCell ⟨gb125,5,none⟩ (.int .i64 t120)).setCell ⟨gb125,6,none⟩ (.int .i64 t121)).setCell ⟨gb125,7,none⟩ (.slice Ao17 t122.length co17)) w.heap.size (fun k_=>some k_≠(.slice Ao16 t117.length co16:Value).ownBlock) (.slice Ao10 t107.length co10) t107):=⟨by (with_reducible repeat (first|apply Kd.z4|apply Kd.z7|apply Kd.z6));exact Kd.z11 (Kd.z8 (p:=⟨gb125,7,none⟩) (Kd.z8 (p:=⟨gb125,6,none⟩) (Kd.z8 (p:=⟨gb125,5,none⟩) (Kd.z8 (p:=⟨gb125,4,none⟩) (Kd.z8 (p:=⟨gb125,3,none⟩) (Kd.z8 (p:=⟨gb125,2,none⟩) (Kd.z8 (p:=⟨gb125,1,none⟩) (Kd.z8 (p:=⟨gb125,0,none⟩) (Kd.z14 HO109.out BK125.out (by decide)) (fun _ hk=>hk.2) (.string t111)) (fun _ hk=>hk.2) (.string t112)) (fun _ hk=>hk.2) (.string t113)) (fun _ hk=>hk.2) (.slice Ao15 t114.length co15)) (fun _ hk=>hk.2) (.slice Ao16 t117.length co16)) (fun _ hk=>hk.2) (.int .i64 t120)) (fun _ hk=>hk.2) (.int .i64 t121)) (fun _ hk=>hk.2) (.slice Ao17 t122.length co17)) (fun _ hk=>hk.1.2)⟩
    have n2_:Aside0 (Kd.R k30 30 ((((((((w12.setCell ⟨gb125,0,none⟩ (.string t111)).setCell ⟨gb125,1,none⟩ (.string t112)).setCell ⟨gb125,2,none⟩ (.string t113)).setCell ⟨gb125,3,none⟩ (.slice Ao15 t114.length co15)).setCell ⟨gb125,4,none⟩ (.slice Ao16 t117.length co16)).setCell ⟨gb125,5,none⟩ (.int .i64 t120)).setCell ⟨gb125,6,none⟩ (.int .i64 t121)).setCell ⟨gb125,7,none⟩ (.slice Ao17 t122.length co17)) w.heap.size (fun k_=>some k_≠(.slice Ao9 t104.length co9:Value).ownBlock) (.slice Ao15 t114.length co15) t114):=⟨by (with_reducible repeat (first|apply Kd.z4|apply Kd.z7|apply Kd.z6));exact Kd.z11 (Kd.z8 (p:=⟨gb125,7,none⟩) (Kd.z8 (p:=⟨gb125,6,none⟩) (Kd.z8 (p:=⟨gb125,5,none⟩) (Kd.z8 (p:=⟨gb125,4,none⟩) (Kd.z8 (p:=⟨gb125,3,none⟩) (Kd.z8 (p:=⟨gb125,2,none⟩) (Kd.z8 (p:=⟨gb125,1,none⟩) (Kd.z8 (p:=⟨gb125,0,none⟩) (Kd.z14 HO116.out BK125.out (by decide)) (fun _ hk=>hk.2) (.string t111)) (fun _ hk=>hk.2) (.string t112)) (fun _ hk=>hk.2) (.string t113)) (fun _ hk=>hk.2) (.slice Ao15 t114.length co15)) (fun _ hk=>hk.2) (.slice Ao16 t117.length co16)) (fun _ hk=>hk.2) (.int .i64 t120)) (fun _ hk=>hk.2) (.int .i64 t121)) (fun _ hk=>hk.2) (.slice Ao17 t122.length co17)) (fun _ hk=>hk.1.2)⟩
    have n3_:Aside0 (Kd.R Kd.string 9 ((((((((w12.setCell ⟨gb125,0,none⟩ (.string t111)).setCell ⟨gb125,1,none⟩ (.string t112)).setCell ⟨gb125,2,none⟩ (.string t113)).setCell ⟨gb125,3,none⟩ (.slice Ao15 t114.length co15)).setCell ⟨gb125,4,none⟩ (.slice Ao16 t117.length co16)).setCell ⟨gb125,5,none⟩ (.int .i64 t120)).setCell ⟨gb125,6,none⟩ (.int .i64 t121)).setCell ⟨gb125,7,none⟩ (.slice Ao17 t122.length co17)) w.heap.size (fun k_=>some k_≠(.slice Ao10 t107.length co10:Value).ownBlock) (.slice Ao16 t117.length co16) t117):=⟨by (with_reducible repeat (first|apply Kd.z4|apply Kd.z7|apply Kd.z6));exact Kd.z11 (Kd.z8 (p:=⟨gb125,7,none⟩) (Kd.z8 (p:=⟨gb125,6,none⟩) (Kd.z8 (p:=⟨gb125,5,none⟩) (Kd.z8 (p:=⟨gb125,4,none⟩) (Kd.z8 (p:=⟨gb125,3,none⟩) (Kd.z8 (p:=⟨gb125,2,none⟩) (Kd.z8 (p:=⟨gb125,1,none⟩) (Kd.z8 (p:=⟨gb125,0,none⟩) (Kd.z14 HO119.out BK125.out (by decide)) (fun _ hk=>hk.2) (.string t111)) (fun _ hk=>hk.2) (.string t112)) (fun _ hk=>hk.2) (.string t113)) (fun _ hk=>hk.2) (.slice Ao15 t114.length co15)) (fun _ hk=>hk.2) (.slice Ao16 t117.length co16)) (fun _ hk=>hk.2) (.int .i64 t120)) (fun _ hk=>hk.2) (.int .i64 t121)) (fun _ hk=>hk.2) (.slice Ao17 t122.length co17)) (fun _ hk=>hk.1.2)⟩
    have n4_:Aside0 (Kd.R (Kd.int .i64) 3 ((((((((w12.setCell ⟨gb125,0,none⟩ (.string t111)).setCell ⟨gb125,1,none⟩ (.string t112)).setCell ⟨gb125,2,none⟩ (.string t113)).setCell ⟨gb125,3,none⟩ (.slice Ao15 t114.length co15)).setCell ⟨gb125,4,none⟩ (.slice Ao16 t117.length co16)).setCell ⟨gb125,5,none⟩ (.int .i64 t120)).setCell ⟨gb125,6,none⟩ (.int .i64 t121)).setCell ⟨gb125,7,none⟩ (.slice Ao17 t122.length co17)) w.heap.size (fun _=>True) (.slice Ao17 t122.length co17) t122):=⟨by (with_reducible repeat (first|apply Kd.z4|apply Kd.z7|apply Kd.z6));exact Kd.z11 (Kd.z8 (p:=⟨gb125,7,none⟩) (Kd.z8 (p:=⟨gb125,6,none⟩) (Kd.z8 (p:=⟨gb125,5,none⟩) (Kd.z8 (p:=⟨gb125,4,none⟩) (Kd.z8 (p:=⟨gb125,3,none⟩) (Kd.z8 (p:=⟨gb125,2,none⟩) (Kd.z8 (p:=⟨gb125,1,none⟩) (Kd.z8 (p:=⟨gb125,0,none⟩) (Kd.z14 HO124.out BK125.out (by decide)) (fun _ hk=>hk.2) (.string t111)) (fun _ hk=>hk.2) (.string t112)) (fun _ hk=>hk.2) (.string t113)) (fun _ hk=>hk.2) (.slice Ao15 t114.length co15)) (fun _ hk=>hk.2) (.slice Ao16 t117.length co16)) (fun _ hk=>hk.2) (.int .i64 t120)) (fun _ hk=>hk.2) (.int .i64 t121)) (fun _ hk=>hk.2) (.slice Ao17 t122.length co17)) (fun _ hk=>trivial)⟩
    have n5_:Aside0 (((((((((w12.setCell ⟨gb125,0,none⟩ (.string t111)).setCell ⟨gb125,1,none⟩ (.string t112)).setCell ⟨gb125,2,none⟩ (.string t113)).setCell ⟨gb125,3,none⟩ (.slice Ao15 t114.length co15)).setCell ⟨gb125,4,none⟩ (.slice Ao16 t117.length co16)).setCell ⟨gb125,5,none⟩ (.int .i64 t120)).setCell ⟨gb125,6,none⟩ (.int .i64 t121)).setCell ⟨gb125,7,none⟩ (.slice Ao17 t122.length co17)).heap[gb110]?=some (.cells #[.string t102,.string t103,.slice Ao9 t104.length co9,.slice Ao10 t107.length co10] 33 (0,0))):=⟨by (with_reducible repeat (first|refine zq6 ?_ _|refine zq8 ?_|refine zq5 ?_ _));refine zq24 ?_ NB110_125.out _;(with_reducible repeat (first|refine zq6 ?_ _|refine zq8 ?_|refine zq5 ?_ _));refine zq24 ?_ NB110_125.out _;(with_reducible repeat (first|refine zq6 ?_ _|refine zq8 ?_|refine zq5 ?_ _));refine zq24 ?_ NB110_125.out _;(with_reducible repeat (first|refine zq6 ?_ _|refine zq8 ?_|refine zq5 ?_ _));refine zq24 ?_ NB110_125.out _;(with_reducible repeat (first|refine zq6 ?_ _|refine zq8 ?_|refine zq5 ?_ _));refine zq24 ?_ NB110_125.out _;(with_reducible repeat (first|refine zq6 ?_ _|refine zq8 ?_|refine zq5 ?_ _));refine zq24 ?_ NB110_125.out _;(with_reducible repeat (first|refine zq6 ?_ _|refine zq8 ?_|refine zq5 ?_ _));refine zq24 ?_ NB110_125.out _;(with_reducible repeat (first|refine zq6 ?_ _|refine zq8 ?_|refine zq5 ?_ _));refine zq24 ?_ NB110_125.out _;(with_reducible repeat (first|refine zq6 ?_ _|refine zq8 ?_|refine zq5 ?_ _));exact BK110.out⟩
    have n6_:Aside0 (((((((((w12.setCell ⟨gb125,0,none⟩ (.string t111)).setCell ⟨gb125,1,none⟩ (.string t112)).setCell ⟨gb125,2,none⟩ (.string t113)).setCell ⟨gb125,3,none⟩ (.slice Ao15 t114.length co15)).setCell ⟨gb125,4,none⟩ (.slice Ao16 t117.length co16)).setCell ⟨gb125,5,none⟩ (.int .i64 t120)).setCell ⟨gb125,6,none⟩ (.int .i64 t121)).setCell ⟨gb125,7,none⟩ (.slice Ao17 t122.length co17)).heap[gb125]?=some (.cells #[.string t111,.string t112,.string t113,.slice Ao15 t114.length co15,.slice Ao16 t117.length co16,.int .i64 t120,.int .i64 t121,.slice Ao17 t122.length co17] 67 (0,0))):=⟨by (with_reducible repeat (first|refine zq6 ?_ _|refine zq8 ?_|refine zq5 ?_ _));refine zq18 (cs:=#[.string t111,.string t112,.string t113,.slice Ao15 t114.length co15,.slice Ao16 t117.length co16,.int .i64 t120,.int .i64 t121,.slice none 0 0]) ?_ 7 _ rfl;(with_reducible repeat (first|refine zq6 ?_ _|refine zq8 ?_|refine zq5 ?_ _));refine zq18 (cs:=#[.string t111,.string t112,.string t113,.slice Ao15 t114.length co15,.slice Ao16 t117.length co16,.int .i64 t120,.int .i64 0,.slice none 0 0]) ?_ 6 _ rfl;(with_reducible repeat (first|refine zq6 ?_ _|refine zq8 ?_|refine zq5 ?_ _));refine zq18 (cs:=#[.string t111,.string t112,.string t113,.slice Ao15 t114.length co15,.slice Ao16 t117.length co16,.int .i64 0,.int .i64 0,.slice none 0 0]) ?_ 5 _ rfl;(with_reducible repeat (first|refine zq6 ?_ _|refine zq8 ?_|refine zq5 ?_ _));refine zq18 (cs:=#[.string t111,.string t112,.string t113,.slice Ao15 t114.length co15,.slice none 0 0,.int .i64 0,.int .i64 0,.slice none 0 0]) ?_ 4 _ rfl;(with_reducible repeat (first|refine zq6 ?_ _|refine zq8 ?_|refine zq5 ?_ _));refine zq18 (cs:=#[.string t111,.string t112,.string t113,.slice none 0 0,.slice none 0 0,.int .i64 0,.int .i64 0,.slice none 0 0]) ?_ 3 _ rfl;(with_reducible repeat (first|refine zq6 ?_ _|refine zq8 ?_|refine zq5 ?_ _));refine zq18 (cs:=#[.string t111,.string t112,.string bz0,.slice none 0 0,.slice none 0 0,.int .i64 0,.int .i64 0,.slice none 0 0]) ?_ 2 _ rfl;(with_reducible repeat (first|refine zq6 ?_ _|refine zq8 ?_|refine zq5 ?_ _));refine zq18 (cs:=#[.string t111,.string bz0,.string bz0,.slice none 0 0,.slice none 0 0,.int .i64 0,.int .i64 0,.slice none 0 0]) ?_ 1 _ rfl;(with_reducible repeat (first|refine zq6 ?_ _|refine zq8 ?_|refine zq5 ?_ _));refine zq18 (cs:=#[.string bz0,.string bz0,.string bz0,.slice none 0 0,.slice none 0 0,.int .i64 0,.int .i64 0,.slice none 0 0]) ?_ 0 _ rfl;(with_reducible repeat (first|refine zq6 ?_ _|refine zq8 ?_|refine zq5 ?_ _));exact BK125.out⟩
    have n7_:Aside0 (Below w.heap.size w ((((((((w12.setCell ⟨gb125,0,none⟩ (.string t111)).setCell ⟨gb125,1,none⟩ (.string t112)).setCell ⟨gb125,2,none⟩ (.string t113)).setCell ⟨gb125,3,none⟩ (.slice Ao15 t114.length co15)).setCell ⟨gb125,4,none⟩ (.slice Ao16 t117.length co16)).setCell ⟨gb125,5,none⟩ (.int .i64 t120)).setCell ⟨gb125,6,none⟩ (.int .i64 t121)).setCell ⟨gb125,7,none⟩ (.slice Ao17 t122.length co17))):=⟨by repeat (first|(with_reducible first|exact HB.out|apply zq4|apply zq0|apply zq3|refine zq2 ?_ GE110.out|refine zq2 ?_ GE125.out)|exact HB.out)⟩
    (try clear HO106)
    (try clear HO109)
    (try clear HO116)
    (try clear HO119)
    (try clear HO124)
    (try clear BK110)
    (try clear BK125)
    (try clear HB)
    generalize ((((((((w12.setCell ⟨gb125,0,none⟩ (.string t111)).setCell ⟨gb125,1,none⟩ (.string t112)).setCell ⟨gb125,2,none⟩ (.string t113)).setCell ⟨gb125,3,none⟩ (.slice Ao15 t114.length co15)).setCell ⟨gb125,4,none⟩ (.slice Ao16 t117.length co16)).setCell ⟨gb125,5,none⟩ (.int .i64 t120)).setCell ⟨gb125,6,none⟩ (.int .i64 t121)).setCell ⟨gb125,7,none⟩ (.slice Ao17 t122.length co17))=w21 at n0_ n1_ n2_ n3_ n4_ n5_ n6_ n7_ ⊢
    have HO106:=n0_
    have HO109:=n1_
    have HO116:=n2_
    have HO119:=n3_
    have HO124:=n4_
    have BK110:=n5_
    have BK125:=n6_
    have HB:=n7_
    clear n0_ n1_ n2_ n3_ n4_ n5_ n6_ n7_
    have n0_:=zA (Kd.z6 HO106.out)
    have n1_:=zA (Kd.z6 HO109.out)
    have n2_:=zA (Kd.z6 HO116.out)
    have n3_:=zA (Kd.z6 HO119.out)
    have n4_:=zA (Kd.z6 HO124.out)
    have n5_:=zA (zq8 BK110.out)
    have n6_:=zA (zq8 BK125.out)
    have n7_:=zA (zq3 HB.out)
    clear HO106
    clear HO109
    clear HO116
    clear HO119
    clear HO124
    clear BK110
    clear BK125
    clear HB
    have HO106:=n0_
    have HO109:=n1_
    have HO116:=n2_
    have HO119:=n3_
    have HO124:=n4_
    have BK110:=n5_
    have BK125:=n6_
    have HB:=n7_
    clear n0_ n1_ n2_ n3_ n4_ n5_ n6_ n7_
    refine start_ (n:=11) (S:=fun w'=>w'.cell? ⟨gb125,0,none⟩=some (.string t111)∧w'.cell? ⟨gb125,1,none⟩=some (.string t112)∧w'.cell? ⟨gb125,2,none⟩=some (.string t113)∧w'.cell? ⟨gb125,3,none⟩=some (.slice Ao15 t114.length co15)∧w'.cell? ⟨gb125,4,none⟩=some (.slice Ao16 t117.length co16)∧w'.cell? ⟨gb125,5,none⟩=some (.int .i64 t120)∧w'.cell? ⟨gb125,6,none⟩=some (.int .i64 t121)∧w'.cell? ⟨gb125,7,none⟩=some (.slice Ao17 t122.length co17)∧w'.cell? ⟨gb110,0,none⟩=some (.string t102)∧w'.cell? ⟨gb110,1,none⟩=some (.string t103)∧w'.cell? ⟨gb110,2,none⟩=some (.slice Ao9 t104.length co9)∧w'.cell? ⟨gb110,3,none⟩=some (.slice Ao10 t107.length co10)) (ds:=[]) #[false,false,false,false,false,false,false,false,false,false,false] (by kernel_rfl) rfl rfl ⟨zq1 BK125.out 0,zq1 BK125.out 1,zq1 BK125.out 2,zq1 BK125.out 3,zq1 BK125.out 4,zq1 BK125.out 5,zq1 BK125.out 6,zq1 BK125.out 7,zq1 BK110.out 0,zq1 BK110.out 1,zq1 BK110.out 2,zq1 BK110.out 3⟩ (fun hHeld=>?_);refine with_tabW laws_FnCliNew.tab5 laws_FnCliNew.bits5 (fun HT_ HW_=>?_)
    generalize w21.drew=w22 at HO106 HO109 HO116 HO119 HO124 BK110 BK125 HB hHeld ⊢
    refine pure_ (i:=1) (N:=some 20) (v:=?_) (a':=?_) #[false,true,false,false,false,false,false,false,false,false,false] rfl rfl (any_of HT_.out (by kernel_rfl)) (fun _ _ _ h=>h) (Or.inl ⟨by rfl,?_⟩) ?_ ?_
    rotate_left
    ·intro w'
     go_simp
     with_reducible rfl
    rotate_left
    ·simp only [Act.put,zL0,zL1,zL2,i64_w,i32_w]
     rfl
    refine take_ (i:=0) (N:=some 19) (v:=?_) (a':=?_) #[true,true,false,false,false,false,false,false,false,false,false] rfl rfl (take_ofW HT_.out HW_.out (by kernel_rfl)) (fun _ _ _ h=>h) (Or.inl ⟨by rfl,?_⟩) hHeld ?_ ?_
    rotate_left
    ·rintro w' ⟨s0,s1,s2,s3,s4,s5,s6,s7,s8,s9,s10,s11⟩
     go_simp
     with_reducible rfl
    rotate_left
    ·simp only [Act.put,zL0,zL1,zL2,i64_w,i32_w]
     rfl
    refine take_ (i:=2) (N:=some 21) (v:=?_) (a':=?_) #[true,true,true,false,false,false,false,false,false,false,false] rfl rfl (take_ofW HT_.out HW_.out (by kernel_rfl)) (fun _ _ _ h=>h) (Or.inl ⟨by rfl,?_⟩) hHeld ?_ ?_
    rotate_left
    ·rintro w' ⟨s0,s1,s2,s3,s4,s5,s6,s7,s8,s9,s10,s11⟩
     go_simp
     with_reducible rfl
    rotate_left
    ·simp only [Act.put,zL0,zL1,zL2,i64_w,i32_w]
     rfl
    refine one_ (i:=3) (N:=some 22) #[true,true,true,true,false,false,false,false,false,false,false] rfl rfl (one_of HT_.out (by kernel_rfl)) (by decide) (fun K hK=>?_)
    refine goes_ Tryd.func37 (by kernel_rfl) rfl #[.string t101,.agg #[.string t102,.string t103,.slice Ao9 t104.length co9,.slice Ao10 t107.length co10]] (by rfl) rfl rfl (by (try simp only [zL3,zL4,zL5]);first|done|rfl|(simp only [zL6,zL7];rfl)) ?_
    with_reducible refine (spec_CliNew.calls k t101 t102 t103 _ _ t104 _ _ t107 t126 t127 t128 t129 t132 t135 t136 t137 _ ?side1 ?side2 ?side3 ?side4 A18.out).mono ?_
    (case side1=>repeat (first|exact (Kd.z12 HO106.out).2.2|(with_reducible refine Kd.z0 ?_ _)|(with_reducible refine Kd.z3 ?_ _)|(with_reducible refine Kd.z2 ?_)))
    (case side2=>exact (Kd.z12 HO106.out).2.1)
    (case side3=>repeat (first|exact (Kd.z12 HO109.out).2.2|(with_reducible refine Kd.z0 ?_ _)|(with_reducible refine Kd.z3 ?_ _)|(with_reducible refine Kd.z2 ?_)))
    (case side4=>exact (Kd.z12 HO109.out).2.1)
    rintro e w23 ⟨v130,v133,v138,rfl,ho0,ho1,ho2,hb⟩
    refine ⟨_,rfl,?_⟩
    have n0_:=zA (Kd.R_elder' (by (with_reducible repeat (first|apply Kd.z4|apply Kd.z7|apply Kd.z6));exact HO106.out) (Kd.R_base ho0) hb)
    have n1_:=zA (Kd.R_elder' (by (with_reducible repeat (first|apply Kd.z4|apply Kd.z7|apply Kd.z6));exact HO109.out) (Kd.R_base ho1) hb)
    have n2_:=zA (Kd.R_elder' (by (with_reducible repeat (first|apply Kd.z4|apply Kd.z7|apply Kd.z6));exact HO116.out) (Kd.R_base ho0) hb)
    have n3_:=zA (Kd.R_elder' (by (with_reducible repeat (first|apply Kd.z4|apply Kd.z7|apply Kd.z6));exact HO119.out) (Kd.R_base ho1) hb)
    have n4_:=zA (Kd.R_elder' (by (with_reducible repeat (first|apply Kd.z4|apply Kd.z7|apply Kd.z6));exact HO124.out) (Kd.R_base ho2) hb)
    have n5_:=zA (Kd.z10 (Kd.R_new' (Kd.R_new' ho0 (Kd.R_lt (by (with_reducible repeat (first|apply Kd.z4|apply Kd.z7|apply Kd.z6));exact HO106.out))) (Kd.R_lt (by (with_reducible repeat (first|apply Kd.z4|apply Kd.z7|apply Kd.z6));exact HO116.out))) (zq14 (by repeat (first|(with_reducible first|exact HB.out|apply zq4|apply zq0|apply zq3|refine zq2 ?_ GE110.out|refine zq2 ?_ GE125.out)|exact HB.out))))
    have n6_:=zA (Kd.z10 (Kd.R_new' (Kd.R_new' ho1 (Kd.R_lt (by (with_reducible repeat (first|apply Kd.z4|apply Kd.z7|apply Kd.z6));exact HO109.out))) (Kd.R_lt (by (with_reducible repeat (first|apply Kd.z4|apply Kd.z7|apply Kd.z6));exact HO119.out))) (zq14 (by repeat (first|(with_reducible first|exact HB.out|apply zq4|apply zq0|apply zq3|refine zq2 ?_ GE110.out|refine zq2 ?_ GE125.out)|exact HB.out))))
    have n7_:=zA (Kd.z10 (Kd.R_new' ho2 (Kd.R_lt (by (with_reducible repeat (first|apply Kd.z4|apply Kd.z7|apply Kd.z6));exact HO124.out))) (zq14 (by repeat (first|(with_reducible first|exact HB.out|apply zq4|apply zq0|apply zq3|refine zq2 ?_ GE110.out|refine zq2 ?_ GE125.out)|exact HB.out))))
    have n8_:=zA (zq13 (by (with_reducible repeat (first|refine zq6 ?_ _|refine zq8 ?_|refine zq5 ?_ _));exact BK110.out) hb)
    have n9_:=zA (zq13 (by (with_reducible repeat (first|refine zq6 ?_ _|refine zq8 ?_|refine zq5 ?_ _));exact BK125.out) hb)
    have n10_:=zA (zq11 (by repeat (first|(with_reducible first|exact HB.out|apply zq4|apply zq0|apply zq3|refine zq2 ?_ GE110.out|refine zq2 ?_ GE125.out)|exact HB.out)) hb)
    clear HO106
    clear HO109
    clear HO116
    clear HO119
    clear HO124
    clear BK110
    clear BK125
    clear HB
    have HO106:=n0_
    have HO109:=n1_
    have HO116:=n2_
    have HO119:=n3_
    have HO124:=n4_
    have HO131:=n5_
    have HO134:=n6_
    have HO139:=n7_
    have BK110:=n8_
    have BK125:=n9_
    have HB:=n10_
    clear n0_ n1_ n2_ n3_ n4_ n5_ n6_ n7_ n8_ n9_ n10_
    (try clear hb)
    (try clear hk)
    (try clear ho0)
    (try clear ho1)
    (try clear ho2)
    obtain ⟨Ao24,co24,eo24⟩:=Kd.z13 HO131.out
    (first|subst eo24|(injection eo24 with f1_ f2_ f3_;have f4_:=f1_.symm;have f5_:=f3_.symm;clear f1_ f2_ f3_;subst f4_;subst f5_))
    obtain ⟨Ao25,co25,eo25⟩:=Kd.z13 HO134.out
    (first|subst eo25|(injection eo25 with f1_ f2_ f3_;have f4_:=f1_.symm;have f5_:=f3_.symm;clear f1_ f2_ f3_;subst f4_;subst f5_))
    obtain ⟨Ao26,co26,eo26⟩:=Kd.z13 HO139.out
    (first|subst eo26|(injection eo26 with f1_ f2_ f3_;have f4_:=f1_.symm;have f5_:=f3_.symm;clear f1_ f2_ f3_;subst f4_;subst f5_))
    refine hK.out _ _ ⟨zq1 BK125.out 0,zq1 BK125.out 1,zq1 BK125.out 2,zq1 BK125.out 3,zq1 BK125.out 4,zq1 BK125.out 5,zq1 BK125.out 6,zq1 BK125.out 7,zq1 BK110.out 0,zq1 BK110.out 1,zq1 BK110.out 2,zq1 BK110.out 3⟩ (fun hHeld=>?_)
    clear hK K
    refine norm_ (a':=?_) ?_ ?_
    rotate_left
    ·show Act.put _ (some 22) _=_
     simp only [Act.put,zL0,zL1,zL2,i64_w,i32_w]
     rfl
    refine one_ (i:=4) (N:=some 23) #[true,true,true,true,true,false,false,false,false,false,false] rfl rfl (one_of HT_.out (by kernel_rfl)) (by decide) (fun K hK=>?_)
    refine goes_ Tryd.func36 (by kernel_rfl) rfl #[.agg #[.string t111,.string t112,.string t113,.slice Ao15 t114.length co15,.slice Ao16 t117.length co16,.int .i64 t120,.int .i64 t121,.slice Ao17 t122.length co17],.agg #[.string t126,.string t127,.string t128,.slice Ao24 t129.length co24,.slice Ao25 t132.length co25,.int .i64 t135,.int .i64 t136,.slice Ao26 t137.length co26]] (by rfl) rfl rfl (by (try simp only [zL3,zL4,zL5]);first|done|rfl|(simp only [zL6,zL7];rfl)) ?_
    with_reducible refine (laws_saCli.calls k t111 t112 t113 _ _ t114 _ _ t117 t120 t121 _ _ t122 t126 t127 t128 _ _ t129 _ _ t132 t135 t136 _ _ t137 true _ ?side1 ?side2 ?side3 ?side4 ?side5 ?side6 ?side7 ?side8 ?side9 ?side10 ?side11 ?side12 A19.out).mono ?_
    (case side1=>repeat (first|exact (Kd.z12 HO116.out).2.2|(with_reducible refine Kd.z0 ?_ _)|(with_reducible refine Kd.z3 ?_ _)|(with_reducible refine Kd.z2 ?_)))
    (case side2=>exact (Kd.z12 HO116.out).2.1)
    (case side3=>repeat (first|exact (Kd.z12 HO119.out).2.2|(with_reducible refine Kd.z0 ?_ _)|(with_reducible refine Kd.z3 ?_ _)|(with_reducible refine Kd.z2 ?_)))
    (case side4=>exact (Kd.z12 HO119.out).2.1)
    (case side5=>repeat (first|exact (Kd.z12 HO124.out).2.2|(with_reducible refine Kd.z0 ?_ _)|(with_reducible refine Kd.z3 ?_ _)|(with_reducible refine Kd.z2 ?_)))
    (case side6=>exact (Kd.z12 HO124.out).2.1)
    (case side7=>repeat (first|exact (Kd.z12 HO131.out).2.2|(with_reducible refine Kd.z0 ?_ _)|(with_reducible refine Kd.z3 ?_ _)|(with_reducible refine Kd.z2 ?_)))
    (case side8=>exact (Kd.z12 HO131.out).2.1)
    (case side9=>repeat (first|exact (Kd.z12 HO134.out).2.2|(with_reducible refine Kd.z0 ?_ _)|(with_reducible refine Kd.z3 ?_ _)|(with_reducible refine Kd.z2 ?_)))
    (case side10=>exact (Kd.z12 HO134.out).2.1)
    (case side11=>repeat (first|exact (Kd.z12 HO139.out).2.2|(with_reducible refine Kd.z0 ?_ _)|(with_reducible refine Kd.z3 ?_ _)|(with_reducible refine Kd.z2 ?_)))
    (case side12=>exact (Kd.z12 HO139.out).2.1)
    rintro e w27 ⟨rfl,hb⟩
    refine ⟨_,rfl,?_⟩
    have n0_:=zA (Kd.z5 (by (with_reducible repeat (first|apply Kd.z4|apply Kd.z7|apply Kd.z6));exact HO106.out) hb)
    have n1_:=zA (Kd.z5 (by (with_reducible repeat (first|apply Kd.z4|apply Kd.z7|apply Kd.z6));exact HO109.out) hb)
    have n2_:=zA (Kd.z5 (by (with_reducible repeat (first|apply Kd.z4|apply Kd.z7|apply Kd.z6));exact HO116.out) hb)
    have n3_:=zA (Kd.z5 (by (with_reducible repeat (first|apply Kd.z4|apply Kd.z7|apply Kd.z6));exact HO119.out) hb)
    have n4_:=zA (Kd.z5 (by (with_reducible repeat (first|apply Kd.z4|apply Kd.z7|apply Kd.z6));exact HO124.out) hb)
    have n5_:=zA (Kd.z5 (by (with_reducible repeat (first|apply Kd.z4|apply Kd.z7|apply Kd.z6));exact HO131.out) hb)
    have n6_:=zA (Kd.z5 (by (with_reducible repeat (first|apply Kd.z4|apply Kd.z7|apply Kd.z6));exact HO134.out) hb)
    have n7_:=zA (Kd.z5 (by (with_reducible repeat (first|apply Kd.z4|apply Kd.z7|apply Kd.z6));exact HO139.out) hb)
    have n8_:=zA (zq13 (by (with_reducible repeat (first|refine zq6 ?_ _|refine zq8 ?_|refine zq5 ?_ _));exact BK110.out) hb)
    have n9_:=zA (zq13 (by (with_reducible repeat (first|refine zq6 ?_ _|refine zq8 ?_|refine zq5 ?_ _));exact BK125.out) hb)
    have n10_:=zA (zq11 (by repeat (first|(with_reducible first|exact HB.out|apply zq4|apply zq0|apply zq3|refine zq2 ?_ GE110.out|refine zq2 ?_ GE125.out)|exact HB.out)) hb)
    clear HO106
    clear HO109
    clear HO116
    clear HO119
    clear HO124
    clear HO131
    clear HO134
    clear HO139
    clear BK110
    clear BK125
    clear HB
    have HO106:=n0_
    have HO109:=n1_
    have HO116:=n2_
    have HO119:=n3_
    have HO124:=n4_
    have HO131:=n5_
    have HO134:=n6_
    have HO139:=n7_
    have BK110:=n8_
    have BK125:=n9_
    have HB:=n10_
    clear n0_ n1_ n2_ n3_ n4_ n5_ n6_ n7_ n8_ n9_ n10_
    (try clear hb)
    (try clear hk)
    refine hK.out _ _ ⟨zq1 BK125.out 0,zq1 BK125.out 1,zq1 BK125.out 2,zq1 BK125.out 3,zq1 BK125.out 4,zq1 BK125.out 5,zq1 BK125.out 6,zq1 BK125.out 7,zq1 BK110.out 0,zq1 BK110.out 1,zq1 BK110.out 2,zq1 BK110.out 3⟩ (fun hHeld=>?_)
    clear hK K
    refine norm_ (a':=?_) ?_ ?_
    rotate_left
    ·show Act.put _ (some 23) _=_
     simp only [Act.put,zL0,zL1,zL2,i64_w,i32_w]
     rfl
    refine pure_ (i:=5) (N:=some 24) (v:=?_) (a':=?_) #[true,true,true,true,true,true,false,false,false,false,false] rfl rfl (any_of HT_.out (by kernel_rfl)) (fun _ _ _ h=>h) (Or.inl ⟨by rfl,?_⟩) ?_ ?_
    rotate_left
    ·intro w'
     go_simp
     with_reducible rfl
    rotate_left
    ·simp only [Act.put,zL0,zL1,zL2,i64_w,i32_w]
     rfl
    refine pure_ (i:=6) (N:=some 25) (v:=?_) (a':=?_) #[true,true,true,true,true,true,true,false,false,false,false] rfl rfl (any_of HT_.out (by kernel_rfl)) (fun _ _ _ h=>h) (Or.inl ⟨by rfl,?_⟩) ?_ ?_
    rotate_left
    ·intro w'
     go_simp
     with_reducible rfl
    rotate_left
    ·simp only [Act.put,zL0,zL1,zL2,i64_w,i32_w]
     rfl
    refine pure_ (i:=7) (N:=some 26) (v:=?_) (a':=?_) #[true,true,true,true,true,true,true,true,false,false,false] rfl rfl (any_of HT_.out (by kernel_rfl)) (fun _ _ _ h=>h) (Or.inl ⟨by rfl,?_⟩) ?_ ?_
    rotate_left
    ·intro w'
     go_simp
     with_reducible rfl
    rotate_left
    ·simp only [Act.put,zL0,zL1,zL2,i64_w,i32_w]
     rfl
    refine take_ (i:=8) (N:=some 27) (v:=?_) (a':=?_) #[true,true,true,true,true,true,true,true,true,false,false] rfl rfl (take_ofW HT_.out HW_.out (by kernel_rfl)) (fun _ _ _ h=>h) (Or.inl ⟨by rfl,?_⟩) hHeld ?_ ?_
    rotate_left
    ·rintro w' ⟨s0,s1,s2,s3,s4,s5,s6,s7,s8,s9,s10,s11⟩
     go_simp
     with_reducible rfl
    rotate_left
    ·simp only [Act.put,zL0,zL1,zL2,i64_w,i32_w]
     rfl
    refine pure_ (i:=9) (N:=some 28) (v:=?_) (a':=?_) #[true,true,true,true,true,true,true,true,true,true,false] rfl rfl (any_of HT_.out (by kernel_rfl)) (fun _ _ _ h=>h) (Or.inl ⟨by rfl,?_⟩) ?_ ?_
    rotate_left
    ·intro w'
     go_simp
     with_reducible rfl
    rotate_left
    ·simp only [Act.put,zL0,zL1,zL2,i64_w,i32_w]
     rfl
    refine pure_ (i:=10) (N:=some 29) (v:=?_) (a':=?_) #[true,true,true,true,true,true,true,true,true,true,true] rfl rfl (any_of HT_.out (by kernel_rfl)) (fun _ _ _ h=>h) (Or.inl ⟨by rfl,?_⟩) ?_ ?_
    rotate_left
    ·intro w'
     go_simp
     with_reducible rfl
    rotate_left
    ·simp only [Act.put,zL0,zL1,zL2,i64_w,i32_w]
     rfl
    refine done_ (done_of HT_.out (by kernel_rfl)) ?_
    try go_wp2
    go_meet
    case rel=>exact ⟨_,((t111.toList==([]:List UInt8))),(by first|rfl|(simp;done)|(simp [*];done)),H',⟨by first|omega|exact Nat.le_refl _⟩,⟨by (with_reducible repeat (first|apply Kd.z4|apply Kd.z7|apply Kd.z6));exact Kd.z11 HO106.out (fun _ hk=>hk.1)⟩,⟨by (with_reducible repeat (first|apply Kd.z4|apply Kd.z7|apply Kd.z6));exact Kd.z11 HO109.out (fun _ hk=>hk.1)⟩,⟨by (with_reducible repeat (first|apply Kd.z4|apply Kd.z7|apply Kd.z6));exact Kd.z11 HO116.out (fun _ hk=>hk.1)⟩,⟨by (with_reducible repeat (first|apply Kd.z4|apply Kd.z7|apply Kd.z6));exact Kd.z11 HO119.out (fun _ hk=>hk.1)⟩,⟨by (with_reducible repeat (first|apply Kd.z4|apply Kd.z7|apply Kd.z6));exact Kd.z11 HO124.out (fun _ hk=>trivial)⟩,⟨by (with_reducible repeat (first|refine zq6 ?_ _|refine zq8 ?_|refine zq5 ?_ _));exact BK110.out⟩,⟨by (with_reducible repeat (first|refine zq6 ?_ _|refine zq8 ?_|refine zq5 ?_ _));exact BK125.out⟩,⟨by repeat (first|(with_reducible first|exact HB.out|apply zq4|apply zq0|apply zq3|refine zq2 ?_ GE110.out|refine zq2 ?_ GE125.out)|exact HB.out)⟩⟩
   ·replace c20:=Bool.eq_false_iff.mpr c20
    subst c20
    have H1:(laws_FnCliNew.j0 k t101 true t102 t103 t104 t107 t111 t112 t113 t114 t117 t120 t121 t122)=some r:=by rw [if_neg (show ¬ (false=true) by decide)] at H;exact H
    clear H
    have H:=H1
    clear H1
    have H':=zA H
    clear H
    try go_wp2
    have n0_:Aside0 (Kd.R k30 30 ((((((((w12.setCell ⟨gb125,0,none⟩ (.string t111)).setCell ⟨gb125,1,none⟩ (.string t112)).setCell ⟨gb125,2,none⟩ (.string t113)).setCell ⟨gb125,3,none⟩ (.slice Ao15 t114.length co15)).setCell ⟨gb125,4,none⟩ (.slice Ao16 t117.length co16)).setCell ⟨gb125,5,none⟩ (.int .i64 t120)).setCell ⟨gb125,6,none⟩ (.int .i64 t121)).setCell ⟨gb125,7,none⟩ (.slice Ao17 t122.length co17)) w.heap.size (fun k_=>some k_≠(.slice Ao15 t114.length co15:Value).ownBlock) (.slice Ao9 t104.length co9) t104):=⟨by (with_reducible repeat (first|apply Kd.z4|apply Kd.z7|apply Kd.z6));exact Kd.z11 (Kd.z8 (p:=⟨gb125,7,none⟩) (Kd.z8 (p:=⟨gb125,6,none⟩) (Kd.z8 (p:=⟨gb125,5,none⟩) (Kd.z8 (p:=⟨gb125,4,none⟩) (Kd.z8 (p:=⟨gb125,3,none⟩) (Kd.z8 (p:=⟨gb125,2,none⟩) (Kd.z8 (p:=⟨gb125,1,none⟩) (Kd.z8 (p:=⟨gb125,0,none⟩) (Kd.z14 HO106.out BK125.out (by decide)) (fun _ hk=>hk.2) (.string t111)) (fun _ hk=>hk.2) (.string t112)) (fun _ hk=>hk.2) (.string t113)) (fun _ hk=>hk.2) (.slice Ao15 t114.length co15)) (fun _ hk=>hk.2) (.slice Ao16 t117.length co16)) (fun _ hk=>hk.2) (.int .i64 t120)) (fun _ hk=>hk.2) (.int .i64 t121)) (fun _ hk=>hk.2) (.slice Ao17 t122.length co17)) (fun _ hk=>hk.1.2)⟩
    have n1_:Aside0 (Kd.R Kd.string 9 ((((((((w12.setCell ⟨gb125,0,none⟩ (.string t111)).setCell ⟨gb125,1,none⟩ (.string t112)).setCell ⟨gb125,2,none⟩ (.string t113)).setCell ⟨gb125,3,none⟩ (.slice Ao15 t114.length co15)).setCell ⟨gb125,4,none⟩ (.slice Ao16 t117.length co16)).setCell ⟨gb125,5,none⟩ (.int .i64 t120)).setCell ⟨gb125,6,none⟩ (.int .i64 t121)).setCell ⟨gb125,7,none⟩ (.slice Ao17 t122.length co17)) w.heap.size (fun k_=>some k_≠(.slice Ao16 t117.length co16:Value).ownBlock) (.slice Ao10 t107.length co10) t107):=⟨by (with_reducible repeat (first|apply Kd.z4|apply Kd.z7|apply Kd.z6));exact Kd.z11 (Kd.z8 (p:=⟨gb125,7,none⟩) (Kd.z8 (p:=⟨gb125,6,none⟩) (Kd.z8 (p:=⟨gb125,5,none⟩) (Kd.z8 (p:=⟨gb125,4,none⟩) (Kd.z8 (p:=⟨gb125,3,none⟩) (Kd.z8 (p:=⟨gb125,2,none⟩) (Kd.z8 (p:=⟨gb125,1,none⟩) (Kd.z8 (p:=⟨gb125,0,none⟩) (Kd.z14 HO109.out BK125.out (by decide)) (fun _ hk=>hk.2) (.string t111)) (fun _ hk=>hk.2) (.string t112)) (fun _ hk=>hk.2) (.string t113)) (fun _ hk=>hk.2) (.slice Ao15 t114.length co15)) (fun _ hk=>hk.2) (.slice Ao16 t117.length co16)) (fun _ hk=>hk.2) (.int .i64 t120)) (fun _ hk=>hk.2) (.int .i64 t121)) (fun _ hk=>hk.2) (.slice Ao17 t122.length co17)) (fun _ hk=>hk.1.2)⟩
    have n2_:Aside0 (Kd.R k30 30 ((((((((w12.setCell ⟨gb125,0,none⟩ (.string t111)).setCell ⟨gb125,1,none⟩ (.string t112)).setCell ⟨gb125,2,none⟩ (.string t113)).setCell ⟨gb125,3,none⟩ (.slice Ao15 t114.length co15)).setCell ⟨gb125,4,none⟩ (.slice Ao16 t117.length co16)).setCell ⟨gb125,5,none⟩ (.int .i64 t120)).setCell ⟨gb125,6,none⟩ (.int .i64 t121)).setCell ⟨gb125,7,none⟩ (.slice Ao17 t122.length co17)) w.heap.size (fun k_=>some k_≠(.slice Ao9 t104.length co9:Value).ownBlock) (.slice Ao15 t114.length co15) t114):=⟨by (with_reducible repeat (first|apply Kd.z4|apply Kd.z7|apply Kd.z6));exact Kd.z11 (Kd.z8 (p:=⟨gb125,7,none⟩) (Kd.z8 (p:=⟨gb125,6,none⟩) (Kd.z8 (p:=⟨gb125,5,none⟩) (Kd.z8 (p:=⟨gb125,4,none⟩) (Kd.z8 (p:=⟨gb125,3,none⟩) (Kd.z8 (p:=⟨gb125,2,none⟩) (Kd.z8 (p:=⟨gb125,1,none⟩) (Kd.z8 (p:=⟨gb125,0,none⟩) (Kd.z14 HO116.out BK125.out (by decide)) (fun _ hk=>hk.2) (.string t111)) (fun _ hk=>hk.2) (.string t112)) (fun _ hk=>hk.2) (.string t113)) (fun _ hk=>hk.2) (.slice Ao15 t114.length co15)) (fun _ hk=>hk.2) (.slice Ao16 t117.length co16)) (fun _ hk=>hk.2) (.int .i64 t120)) (fun _ hk=>hk.2) (.int .i64 t121)) (fun _ hk=>hk.2) (.slice Ao17 t122.length co17)) (fun _ hk=>hk.1.2)⟩
    have n3_:Aside0 (Kd.R Kd.string 9 ((((((((w12.setCell ⟨gb125,0,none⟩ (.string t111)).setCell ⟨gb125,1,none⟩ (.string t112)).setCell ⟨gb125,2,none⟩ (.string t113)).setCell ⟨gb125,3,none⟩ (.slice Ao15 t114.length co15)).setCell ⟨gb125,4,none⟩ (.slice Ao16 t117.length co16)).setCell ⟨gb125,5,none⟩ (.int .i64 t120)).setCell ⟨gb125,6,none⟩ (.int .i64 t121)).setCell ⟨gb125,7,none⟩ (.slice Ao17 t122.length co17)) w.heap.size (fun k_=>some k_≠(.slice Ao10 t107.length co10:Value).ownBlock) (.slice Ao16 t117.length co16) t117):=⟨by (with_reducible repeat (first|apply Kd.z4|apply Kd.z7|apply Kd.z6));exact Kd.z11 (Kd.z8 (p:=⟨gb125,7,none⟩) (Kd.z8 (p:=⟨gb125,6,none⟩) (Kd.z8 (p:=⟨gb125,5,none⟩) (Kd.z8 (p:=⟨gb125,4,none⟩) (Kd.z8 (p:=⟨gb125,3,none⟩) (Kd.z8 (p:=⟨gb125,2,none⟩) (Kd.z8 (p:=⟨gb125,1,none⟩) (Kd.z8 (p:=⟨gb125,0,none⟩) (Kd.z14 HO119.out BK125.out (by decide)) (fun _ hk=>hk.2) (.string t111)) (fun _ hk=>hk.2) (.string t112)) (fun _ hk=>hk.2) (.string t113)) (fun _ hk=>hk.2) (.slice Ao15 t114.length co15)) (fun _ hk=>hk.2) (.slice Ao16 t117.length co16)) (fun _ hk=>hk.2) (.int .i64 t120)) (fun _ hk=>hk.2) (.int .i64 t121)) (fun _ hk=>hk.2) (.slice Ao17 t122.length co17)) (fun _ hk=>hk.1.2)⟩
    have n4_:Aside0 (Kd.R (Kd.int .i64) 3 ((((((((w12.setCell ⟨gb125,0,none⟩ (.string t111)).setCell ⟨gb125,1,none⟩ (.string t112)).setCell ⟨gb125,2,none⟩ (.string t113)).setCell ⟨gb125,3,none⟩ (.slice Ao15 t114.length co15)).setCell ⟨gb125,4,none⟩ (.slice Ao16 t117.length co16)).setCell ⟨gb125,5,none⟩ (.int .i64 t120)).setCell ⟨gb125,6,none⟩ (.int .i64 t121)).setCell ⟨gb125,7,none⟩ (.slice Ao17 t122.length co17)) w.heap.size (fun _=>True) (.slice Ao17 t122.length co17) t122):=⟨by (with_reducible repeat (first|apply Kd.z4|apply Kd.z7|apply Kd.z6));exact Kd.z11 (Kd.z8 (p:=⟨gb125,7,none⟩) (Kd.z8 (p:=⟨gb125,6,none⟩) (Kd.z8 (p:=⟨gb125,5,none⟩) (Kd.z8 (p:=⟨gb125,4,none⟩) (Kd.z8 (p:=⟨gb125,3,none⟩) (Kd.z8 (p:=⟨gb125,2,none⟩) (Kd.z8 (p:=⟨gb125,1,none⟩) (Kd.z8 (p:=⟨gb125,0,none⟩) (Kd.z14 HO124.out BK125.out (by decide)) (fun _ hk=>hk.2) (.string t111)) (fun _ hk=>hk.2) (.string t112)) (fun _ hk=>hk.2) (.string t113)) (fun _ hk=>hk.2) (.slice Ao15 t114.length co15)) (fun _ hk=>hk.2) (.slice Ao16 t117.length co16)) (fun _ hk=>hk.2) (.int .i64 t120)) (fun _ hk=>hk.2) (.int .i64 t121)) (fun _ hk=>hk.2) (.slice Ao17 t122.length co17)) (fun _ hk=>trivial)⟩
    have n5_:Aside0 (((((((((w12.setCell ⟨gb125,0,none⟩ (.string t111)).setCell ⟨gb125,1,none⟩ (.string t112)).setCell ⟨gb125,2,none⟩ (.string t113)).setCell ⟨gb125,3,none⟩ (.slice Ao15 t114.length co15)).setCell ⟨gb125,4,none⟩ (.slice Ao16 t117.length co16)).setCell ⟨gb125,5,none⟩ (.int .i64 t120)).setCell ⟨gb125,6,none⟩ (.int .i64 t121)).setCell ⟨gb125,7,none⟩ (.slice Ao17 t122.length co17)).heap[gb110]?=some (.cells #[.string t102,.string t103,.slice Ao9 t104.length co9,.slice Ao10 t107.length co10] 33 (0,0))):=⟨by (with_reducible repeat (first|refine zq6 ?_ _|refine zq8 ?_|refine zq5 ?_ _));refine zq24 ?_ NB110_125.out _;(with_reducible repeat (first|refine zq6 ?_ _|refine zq8 ?_|refine zq5 ?_ _));refine zq24 ?_ NB110_125.out _;(with_reducible repeat (first|refine zq6 ?_ _|refine zq8 ?_|refine zq5 ?_ _));refine zq24 ?_ NB110_125.out _;(with_reducible repeat (first|refine zq6 ?_ _|refine zq8 ?_|refine zq5 ?_ _));refine zq24 ?_ NB110_125.out _;(with_reducible repeat (first|refine zq6 ?_ _|refine zq8 ?_|refine zq5 ?_ _));refine zq24 ?_ NB110_125.out _;(with_reducible repeat (first|refine zq6 ?_ _|refine zq8 ?_|refine zq5 ?_ _));refine zq24 ?_ NB110_125.out _;(with_reducible repeat (first|refine zq6 ?_ _|refine zq8 ?_|refine zq5 ?_ _));refine zq24 ?_ NB110_125.out _;(with_reducible repeat (first|refine zq6 ?_ _|refine zq8 ?_|refine zq5 ?_ _));refine zq24 ?_ NB110_125.out _;(with_reducible repeat (first|refine zq6 ?_ _|refine zq8 ?_|refine zq5 ?_ _));exact BK110.out⟩
    have n6_:Aside0 (((((((((w12.setCell ⟨gb125,0,none⟩ (.string t111)).setCell ⟨gb125,1,none⟩ (.string t112)).setCell ⟨gb125,2,none⟩ (.string t113)).setCell ⟨gb125,3,none⟩ (.slice Ao15 t114.length co15)).setCell ⟨gb125,4,none⟩ (.slice Ao16 t117.length co16)).setCell ⟨gb125,5,none⟩ (.int .i64 t120)).setCell ⟨gb125,6,none⟩ (.int .i64 t121)).setCell ⟨gb125,7,none⟩ (.slice Ao17 t122.length co17)).heap[gb125]?=some (.cells #[.string t111,.string t112,.string t113,.slice Ao15 t114.length co15,.slice Ao16 t117.length co16,.int .i64 t120,.int .i64 t121,.slice Ao17 t122.length co17] 67 (0,0))):=⟨by (with_reducible repeat (first|refine zq6 ?_ _|refine zq8 ?_|refine zq5 ?_ _));refine zq18 (cs:=#[.string t111,.string t112,.string t113,.slice Ao15 t114.length co15,.slice Ao16 t117.length co16,.int .i64 t120,.int .i64 t121,.slice none 0 0]) ?_ 7 _ rfl;(with_reducible repeat (first|refine zq6 ?_ _|refine zq8 ?_|refine zq5 ?_ _));refine zq18 (cs:=#[.string t111,.string t112,.string t113,.slice Ao15 t114.length co15,.slice Ao16 t117.length co16,.int .i64 t120,.int .i64 0,.slice none 0 0]) ?_ 6 _ rfl;(with_reducible repeat (first|refine zq6 ?_ _|refine zq8 ?_|refine zq5 ?_ _));refine zq18 (cs:=#[.string t111,.string t112,.string t113,.slice Ao15 t114.length co15,.slice Ao16 t117.length co16,.int .i64 0,.int .i64 0,.slice none 0 0]) ?_ 5 _ rfl;(with_reducible repeat (first|refine zq6 ?_ _|refine zq8 ?_|refine zq5 ?_ _));refine zq18 (cs:=#[.string t111,.string t112,.string t113,.slice Ao15 t114.length co15,.slice none 0 0,.int .i64 0,.int .i64 0,.slice none 0 0]) ?_ 4 _ rfl;(with_reducible repeat (first|refine zq6 ?_ _|refine zq8 ?_|refine zq5 ?_ _));refine zq18 (cs:=#[.string t111,.string t112,.string t113,.slice none 0 0,.slice none 0 0,.int .i64 0,.int .i64 0,.slice none 0 0]) ?_ 3 _ rfl;(with_reducible repeat (first|refine zq6 ?_ _|refine zq8 ?_|refine zq5 ?_ _));refine zq18 (cs:=#[.string t111,.string t112,.string bz0,.slice none 0 0,.slice none 0 0,.int .i64 0,.int .i64 0,.slice none 0 0]) ?_ 2 _ rfl;(with_reducible repeat (first|refine zq6 ?_ _|refine zq8 ?_|refine zq5 ?_ _));refine zq18 (cs:=#[.string t111,.string bz0,.string bz0,.slice none 0 0,.slice none 0 0,.int .i64 0,.int .i64 0,.slice none 0 0]) ?_ 1 _ rfl;(with_reducible repeat (first|refine zq6 ?_ _|refine zq8 ?_|refine zq5 ?_ _));refine zq18 (cs:=#[.string bz0,.string bz0,.string bz0,.slice none 0 0,.slice none 0 0,.int .i64 0,.int .i64 0,.slice none 0 0]) ?_ 0 _ rfl;(with_reducible repeat (first|refine zq6 ?_ _|refine zq8 ?_|refine zq5 ?_ _));exact BK125.out⟩
    have n7_:Aside0 (Below w.heap.size w ((((((((w12.setCell ⟨gb125,0,none⟩ (.string t111)).setCell ⟨gb125,1,none⟩ (.string t112)).setCell ⟨gb125,2,none⟩ (.string t113)).setCell ⟨gb125,3,none⟩ (.slice Ao15 t114.length co15)).setCell ⟨gb125,4,none⟩ (.slice Ao16 t117.length co16)).setCell ⟨gb125,5,none⟩ (.int .i64 t120)).setCell ⟨gb125,6,none⟩ (.int .i64 t121)).setCell ⟨gb125,7,none⟩ (.slice Ao17 t122.length co17))):=⟨by repeat (first|(with_reducible first|exact HB.out|apply zq4|apply zq0|apply zq3|refine zq2 ?_ GE110.out|refine zq2 ?_ GE125.out)|exact HB.out)⟩
    (try clear HO106)
    (try clear HO109)
    (try clear HO116)
    (try clear HO119)
    (try clear HO124)
    (try clear BK110)
    (try clear BK125)
    (try clear HB)
    generalize ((((((((w12.setCell ⟨gb125,0,none⟩ (.string t111)).setCell ⟨gb125,1,none⟩ (.string t112)).setCell ⟨gb125,2,none⟩ (.string t113)).setCell ⟨gb125,3,none⟩ (.slice Ao15 t114.length co15)).setCell ⟨gb125,4,none⟩ (.slice Ao16 t117.length co16)).setCell ⟨gb125,5,none⟩ (.int .i64 t120)).setCell ⟨gb125,6,none⟩ (.int .i64 t121)).setCell ⟨gb125,7,none⟩ (.slice Ao17 t122.length co17))=w28 at n0_ n1_ n2_ n3_ n4_ n5_ n6_ n7_ ⊢
    have HO106:=n0_
    have HO109:=n1_
    have HO116:=n2_
    have HO119:=n3_
    have HO124:=n4_
    have BK110:=n5_
    have BK125:=n6_
    have HB:=n7_
    clear n0_ n1_ n2_ n3_ n4_ n5_ n6_ n7_
    have n0_:=zA (Kd.z6 HO106.out)
    have n1_:=zA (Kd.z6 HO109.out)
    have n2_:=zA (Kd.z6 HO116.out)
    have n3_:=zA (Kd.z6 HO119.out)
    have n4_:=zA (Kd.z6 HO124.out)
    have n5_:=zA (zq8 BK110.out)
    have n6_:=zA (zq8 BK125.out)
    have n7_:=zA (zq3 HB.out)
    clear HO106
    clear HO109
    clear HO116
    clear HO119
    clear HO124
    clear BK110
    clear BK125
    clear HB
    have HO106:=n0_
    have HO109:=n1_
    have HO116:=n2_
    have HO119:=n3_
    have HO124:=n4_
    have BK110:=n5_
    have BK125:=n6_
    have HB:=n7_
    clear n0_ n1_ n2_ n3_ n4_ n5_ n6_ n7_
    refine start_ (n:=11) (S:=fun w'=>w'.cell? ⟨gb125,0,none⟩=some (.string t111)∧w'.cell? ⟨gb125,1,none⟩=some (.string t112)∧w'.cell? ⟨gb125,2,none⟩=some (.string t113)∧w'.cell? ⟨gb125,3,none⟩=some (.slice Ao15 t114.length co15)∧w'.cell? ⟨gb125,4,none⟩=some (.slice Ao16 t117.length co16)∧w'.cell? ⟨gb125,5,none⟩=some (.int .i64 t120)∧w'.cell? ⟨gb125,6,none⟩=some (.int .i64 t121)∧w'.cell? ⟨gb125,7,none⟩=some (.slice Ao17 t122.length co17)∧w'.cell? ⟨gb110,0,none⟩=some (.string t102)∧w'.cell? ⟨gb110,1,none⟩=some (.string t103)∧w'.cell? ⟨gb110,2,none⟩=some (.slice Ao9 t104.length co9)∧w'.cell? ⟨gb110,3,none⟩=some (.slice Ao10 t107.length co10)) (ds:=[]) #[false,false,false,false,false,false,false,false,false,false,false] (by kernel_rfl) rfl rfl ⟨zq1 BK125.out 0,zq1 BK125.out 1,zq1 BK125.out 2,zq1 BK125.out 3,zq1 BK125.out 4,zq1 BK125.out 5,zq1 BK125.out 6,zq1 BK125.out 7,zq1 BK110.out 0,zq1 BK110.out 1,zq1 BK110.out 2,zq1 BK110.out 3⟩ (fun hHeld=>?_);refine with_tabW laws_FnCliNew.tab5 laws_FnCliNew.bits5 (fun HT_ HW_=>?_)
    generalize w28.drew=w29 at HO106 HO109 HO116 HO119 HO124 BK110 BK125 HB hHeld ⊢
    refine pure_ (i:=1) (N:=some 20) (v:=?_) (a':=?_) #[false,true,false,false,false,false,false,false,false,false,false] rfl rfl (any_of HT_.out (by kernel_rfl)) (fun _ _ _ h=>h) (Or.inl ⟨by rfl,?_⟩) ?_ ?_
    rotate_left
    ·intro w'
     go_simp
     with_reducible rfl
    rotate_left
    ·simp only [Act.put,zL0,zL1,zL2,i64_w,i32_w]
     rfl
    refine take_ (i:=0) (N:=some 19) (v:=?_) (a':=?_) #[true,true,false,false,false,false,false,false,false,false,false] rfl rfl (take_ofW HT_.out HW_.out (by kernel_rfl)) (fun _ _ _ h=>h) (Or.inl ⟨by rfl,?_⟩) hHeld ?_ ?_
    rotate_left
    ·rintro w' ⟨s0,s1,s2,s3,s4,s5,s6,s7,s8,s9,s10,s11⟩
     go_simp
     with_reducible rfl
    rotate_left
    ·simp only [Act.put,zL0,zL1,zL2,i64_w,i32_w]
     rfl
    refine take_ (i:=2) (N:=some 21) (v:=?_) (a':=?_) #[true,true,true,false,false,false,false,false,false,false,false] rfl rfl (take_ofW HT_.out HW_.out (by kernel_rfl)) (fun _ _ _ h=>h) (Or.inl ⟨by rfl,?_⟩) hHeld ?_ ?_
    rotate_left
    ·rintro w' ⟨s0,s1,s2,s3,s4,s5,s6,s7,s8,s9,s10,s11⟩
     go_simp
     with_reducible rfl
    rotate_left
    ·simp only [Act.put,zL0,zL1,zL2,i64_w,i32_w]
     rfl
    refine one_ (i:=3) (N:=some 22) #[true,true,true,true,false,false,false,false,false,false,false] rfl rfl (one_of HT_.out (by kernel_rfl)) (by decide) (fun K hK=>?_)
    refine goes_ Tryd.func37 (by kernel_rfl) rfl #[.string t101,.agg #[.string t102,.string t103,.slice Ao9 t104.length co9,.slice Ao10 t107.length co10]] (by rfl) rfl rfl (by (try simp only [zL3,zL4,zL5]);first|done|rfl|(simp only [zL6,zL7];rfl)) ?_
    with_reducible refine (spec_CliNew.calls k t101 t102 t103 _ _ t104 _ _ t107 t126 t127 t128 t129 t132 t135 t136 t137 _ ?side1 ?side2 ?side3 ?side4 A18.out).mono ?_
    (case side1=>repeat (first|exact (Kd.z12 HO106.out).2.2|(with_reducible refine Kd.z0 ?_ _)|(with_reducible refine Kd.z3 ?_ _)|(with_reducible refine Kd.z2 ?_)))
    (case side2=>exact (Kd.z12 HO106.out).2.1)
    (case side3=>repeat (first|exact (Kd.z12 HO109.out).2.2|(with_reducible refine Kd.z0 ?_ _)|(with_reducible refine Kd.z3 ?_ _)|(with_reducible refine Kd.z2 ?_)))
    (case side4=>exact (Kd.z12 HO109.out).2.1)
    rintro e w30 ⟨v130,v133,v138,rfl,ho0,ho1,ho2,hb⟩
    refine ⟨_,rfl,?_⟩
    have n0_:=zA (Kd.R_elder' (by (with_reducible repeat (first|apply Kd.z4|apply Kd.z7|apply Kd.z6));exact HO106.out) (Kd.R_base ho0) hb)
    have n1_:=zA (Kd.R_elder' (by (with_reducible repeat (first|apply Kd.z4|apply Kd.z7|apply Kd.z6));exact HO109.out) (Kd.R_base ho1) hb)
    have n2_:=zA (Kd.R_elder' (by (with_reducible repeat (first|apply Kd.z4|apply Kd.z7|apply Kd.z6));exact HO116.out) (Kd.R_base ho0) hb)
    have n3_:=zA (Kd.R_elder' (by (with_reducible repeat (first|apply Kd.z4|apply Kd.z7|apply Kd.z6));exact HO119.out) (Kd.R_base ho1) hb)
    have n4_:=zA (Kd.R_elder' (by (with_reducible repeat (first|apply Kd.z4|apply Kd.z7|apply Kd.z6));exact HO124.out) (Kd.R_base ho2) hb)
    have n5_:=zA (Kd.z10 (Kd.R_new' (Kd.R_new' ho0 (Kd.R_lt (by (with_reducible repeat (first|apply Kd.z4|apply Kd.z7|apply Kd.z6));exact HO106.out))) (Kd.R_lt (by (with_reducible repeat (first|apply Kd.z4|apply Kd.z7|apply Kd.z6));exact HO116.out))) (zq14 (by repeat (first|(with_reducible first|exact HB.out|apply zq4|apply zq0|apply zq3|refine zq2 ?_ GE110.out|refine zq2 ?_ GE125.out)|exact HB.out))))
    have n6_:=zA (Kd.z10 (Kd.R_new' (Kd.R_new' ho1 (Kd.R_lt (by (with_reducible repeat (first|apply Kd.z4|apply Kd.z7|apply Kd.z6));exact HO109.out))) (Kd.R_lt (by (with_reducible repeat (first|apply Kd.z4|apply Kd.z7|apply Kd.z6));exact HO119.out))) (zq14 (by repeat (first|(with_reducible first|exact HB.out|apply zq4|apply zq0|apply zq3|refine zq2 ?_ GE110.out|refine zq2 ?_ GE125.out)|exact HB.out))))
    have n7_:=zA (Kd.z10 (Kd.R_new' ho2 (Kd.R_lt (by (with_reducible repeat (first|apply Kd.z4|apply Kd.z7|apply Kd.z6));exact HO124.out))) (zq14 (by repeat (first|(with_reducible first|exact HB.out|apply zq4|apply zq0|apply zq3|refine zq2 ?_ GE110.out|refine zq2 ?_ GE125.out)|exact HB.out))))
    have n8_:=zA (zq13 (by (with_reducible repeat (first|refine zq6 ?_ _|refine zq8 ?_|refine zq5 ?_ _));exact BK110.out) hb)
    have n9_:=zA (zq13 (by (with_reducible repeat (first|refine zq6 ?_ _|refine zq8 ?_|refine zq5 ?_ _));exact BK125.out) hb)
    have n10_:=zA (zq11 (by repeat (first|(with_reducible first|exact HB.out|apply zq4|apply zq0|apply zq3|refine zq2 ?_ GE110.out|refine zq2 ?_ GE125.out)|exact HB.out)) hb)
    clear HO106
    clear HO109
    clear HO116
    clear HO119
    clear HO124
    clear BK110
    clear BK125
    clear HB
    have HO106:=n0_
    have HO109:=n1_
    have HO116:=n2_
    have HO119:=n3_
    have HO124:=n4_
    have HO131:=n5_
    have HO134:=n6_
    have HO139:=n7_
    have BK110:=n8_
    have BK125:=n9_
    have HB:=n10_
    clear n0_ n1_ n2_ n3_ n4_ n5_ n6_ n7_ n8_ n9_ n10_
    (try clear hb)
    (try clear hk)
    (try clear ho0)
    (try clear ho1)
    (try clear ho2)
    obtain ⟨Ao31,co31,eo31⟩:=Kd.z13 HO131.out
    (first|subst eo31|(injection eo31 with f1_ f2_ f3_;have f4_:=f1_.symm;have f5_:=f3_.symm;clear f1_ f2_ f3_;subst f4_;subst f5_))
    obtain ⟨Ao32,co32,eo32⟩:=Kd.z13 HO134.out
    (first|subst eo32|(injection eo32 with f1_ f2_ f3_;have f4_:=f1_.symm;have f5_:=f3_.symm;clear f1_ f2_ f3_;subst f4_;subst f5_))
    obtain ⟨Ao33,co33,eo33⟩:=Kd.z13 HO139.out
    (first|subst eo33|(injection eo33 with f1_ f2_ f3_;have f4_:=f1_.symm;have f5_:=f3_.symm;clear f1_ f2_ f3_;subst f4_;subst f5_))
    refine hK.out _ _ ⟨zq1 BK125.out 0,zq1 BK125.out 1,zq1 BK125.out 2,zq1 BK125.out 3,zq1 BK125.out 4,zq1 BK125.out 5,zq1 BK125.out 6,zq1 BK125.out 7,zq1 BK110.out 0,zq1 BK110.out 1,zq1 BK110.out 2,zq1 BK110.out 3⟩ (fun hHeld=>?_)
    clear hK K
    refine norm_ (a':=?_) ?_ ?_
    rotate_left
    ·show Act.put _ (some 22) _=_
     simp only [Act.put,zL0,zL1,zL2,i64_w,i32_w]
     rfl
    refine one_ (i:=4) (N:=some 23) #[true,true,true,true,true,false,false,false,false,false,false] rfl rfl (one_of HT_.out (by kernel_rfl)) (by decide) (fun K hK=>?_)
    refine goes_ Tryd.func36 (by kernel_rfl) rfl #[.agg #[.string t111,.string t112,.string t113,.slice Ao15 t114.length co15,.slice Ao16 t117.length co16,.int .i64 t120,.int .i64 t121,.slice Ao17 t122.length co17],.agg #[.string t126,.string t127,.string t128,.slice Ao31 t129.length co31,.slice Ao32 t132.length co32,.int .i64 t135,.int .i64 t136,.slice Ao33 t137.length co33]] (by rfl) rfl rfl (by (try simp only [zL3,zL4,zL5]);first|done|rfl|(simp only [zL6,zL7];rfl)) ?_
    with_reducible refine (laws_saCli.calls k t111 t112 t113 _ _ t114 _ _ t117 t120 t121 _ _ t122 t126 t127 t128 _ _ t129 _ _ t132 t135 t136 _ _ t137 false _ ?side1 ?side2 ?side3 ?side4 ?side5 ?side6 ?side7 ?side8 ?side9 ?side10 ?side11 ?side12 A19.out).mono ?_
    (case side1=>repeat (first|exact (Kd.z12 HO116.out).2.2|(with_reducible refine Kd.z0 ?_ _)|(with_reducible refine Kd.z3 ?_ _)|(with_reducible refine Kd.z2 ?_)))
    (case side2=>exact (Kd.z12 HO116.out).2.1)
    (case side3=>repeat (first|exact (Kd.z12 HO119.out).2.2|(with_reducible refine Kd.z0 ?_ _)|(with_reducible refine Kd.z3 ?_ _)|(with_reducible refine Kd.z2 ?_)))
    (case side4=>exact (Kd.z12 HO119.out).2.1)
    (case side5=>repeat (first|exact (Kd.z12 HO124.out).2.2|(with_reducible refine Kd.z0 ?_ _)|(with_reducible refine Kd.z3 ?_ _)|(with_reducible refine Kd.z2 ?_)))
    (case side6=>exact (Kd.z12 HO124.out).2.1)
    (case side7=>repeat (first|exact (Kd.z12 HO131.out).2.2|(with_reducible refine Kd.z0 ?_ _)|(with_reducible refine Kd.z3 ?_ _)|(with_reducible refine Kd.z2 ?_)))
    (case side8=>exact (Kd.z12 HO131.out).2.1)
    (case side9=>repeat (first|exact (Kd.z12 HO134.out).2.2|(with_reducible refine Kd.z0 ?_ _)|(with_reducible refine Kd.z3 ?_ _)|(with_reducible refine Kd.z2 ?_)))
    (case side10=>exact (Kd.z12 HO134.out).2.1)
    (case side11=>repeat (first|exact (Kd.z12 HO139.out).2.2|(with_reducible refine Kd.z0 ?_ _)|(with_reducible refine Kd.z3 ?_ _)|(with_reducible refine Kd.z2 ?_)))
    (case side12=>exact (Kd.z12 HO139.out).2.1)
    rintro e w34 ⟨rfl,hb⟩
    refine ⟨_,rfl,?_⟩
    have n0_:=zA (Kd.z5 (by (with_reducible repeat (first|apply Kd.z4|apply Kd.z7|apply Kd.z6));exact HO106.out) hb)
    have n1_:=zA (Kd.z5 (by (with_reducible repeat (first|apply Kd.z4|apply Kd.z7|apply Kd.z6));exact HO109.out) hb)
    have n2_:=zA (Kd.z5 (by (with_reducible repeat (first|apply Kd.z4|apply Kd.z7|apply Kd.z6));exact HO116.out) hb)
    have n3_:=zA (Kd.z5 (by (with_reducible repeat (first|apply Kd.z4|apply Kd.z7|apply Kd.z6));exact HO119.out) hb)
    have n4_:=zA (Kd.z5 (by (with_reducible repeat (first|apply Kd.z4|apply Kd.z7|apply Kd.z6));exact HO124.out) hb)
    have n5_:=zA (Kd.z5 (by (with_reducible repeat (first|apply Kd.z4|apply Kd.z7|apply Kd.z6));exact HO131.out) hb)
    have n6_:=zA (Kd.z5 (by (with_reducible repeat (first|apply Kd.z4|apply Kd.z7|apply Kd.z6));exact HO134.out) hb)
    have n7_:=zA (Kd.z5 (by (with_reducible repeat (first|apply Kd.z4|apply Kd.z7|apply Kd.z6));exact HO139.out) hb)
    have n8_:=zA (zq13 (by (with_reducible repeat (first|refine zq6 ?_ _|refine zq8 ?_|refine zq5 ?_ _));exact BK110.out) hb)
    have n9_:=zA (zq13 (by (with_reducible repeat (first|refine zq6 ?_ _|refine zq8 ?_|refine zq5 ?_ _));exact BK125.out) hb)
    have n10_:=zA (zq11 (by repeat (first|(with_reducible first|exact HB.out|apply zq4|apply zq0|apply zq3|refine zq2 ?_ GE110.out|refine zq2 ?_ GE125.out)|exact HB.out)) hb)
    clear HO106
    clear HO109
    clear HO116
    clear HO119
    clear HO124
    clear HO131
    clear HO134
    clear HO139
    clear BK110
    clear BK125
    clear HB
    have HO106:=n0_
    have HO109:=n1_
    have HO116:=n2_
    have HO119:=n3_
    have HO124:=n4_
    have HO131:=n5_
    have HO134:=n6_
    have HO139:=n7_
    have BK110:=n8_
    have BK125:=n9_
    have HB:=n10_
    clear n0_ n1_ n2_ n3_ n4_ n5_ n6_ n7_ n8_ n9_ n10_
    (try clear hb)
    (try clear hk)
    refine hK.out _ _ ⟨zq1 BK125.out 0,zq1 BK125.out 1,zq1 BK125.out 2,zq1 BK125.out 3,zq1 BK125.out 4,zq1 BK125.out 5,zq1 BK125.out 6,zq1 BK125.out 7,zq1 BK110.out 0,zq1 BK110.out 1,zq1 BK110.out 2,zq1 BK110.out 3⟩ (fun hHeld=>?_)
    clear hK K
    refine norm_ (a':=?_) ?_ ?_
    rotate_left
    ·show Act.put _ (some 23) _=_
     simp only [Act.put,zL0,zL1,zL2,i64_w,i32_w]
     rfl
    refine pure_ (i:=5) (N:=some 24) (v:=?_) (a':=?_) #[true,true,true,true,true,true,false,false,false,false,false] rfl rfl (any_of HT_.out (by kernel_rfl)) (fun _ _ _ h=>h) (Or.inl ⟨by rfl,?_⟩) ?_ ?_
    rotate_left
    ·intro w'
     go_simp
     with_reducible rfl
    rotate_left
    ·simp only [Act.put,zL0,zL1,zL2,i64_w,i32_w]
     rfl
    refine pure_ (i:=6) (N:=some 25) (v:=?_) (a':=?_) #[true,true,true,true,true,true,true,false,false,false,false] rfl rfl (any_of HT_.out (by kernel_rfl)) (fun _ _ _ h=>h) (Or.inl ⟨by rfl,?_⟩) ?_ ?_
    rotate_left
    ·intro w'
     go_simp
     with_reducible rfl
    rotate_left
    ·simp only [Act.put,zL0,zL1,zL2,i64_w,i32_w]
     rfl
    refine pure_ (i:=7) (N:=some 26) (v:=undef) (a':=?_) #[true,true,true,true,true,true,true,true,false,false,false] rfl rfl (any_of HT_.out (by kernel_rfl)) (fun _ _ _ h=>h) (Or.inr ⟨by rfl,rfl⟩) ?_ ?_
    rotate_left
    ·simp only [Act.put,zL0,zL1,zL2,i64_w,i32_w]
     rfl
    refine pure_ (i:=8) (N:=some 27) (v:=undef) (a':=?_) #[true,true,true,true,true,true,true,true,true,false,false] rfl rfl (any_of HT_.out (by kernel_rfl)) (fun _ _ _ h=>h) (Or.inr ⟨by rfl,rfl⟩) ?_ ?_
    rotate_left
    ·simp only [Act.put,zL0,zL1,zL2,i64_w,i32_w]
     rfl
    refine pure_ (i:=9) (N:=some 28) (v:=undef) (a':=?_) #[true,true,true,true,true,true,true,true,true,true,false] rfl rfl (any_of HT_.out (by kernel_rfl)) (fun _ _ _ h=>h) (Or.inr ⟨by rfl,rfl⟩) ?_ ?_
    rotate_left
    ·simp only [Act.put,zL0,zL1,zL2,i64_w,i32_w]
     rfl
    refine pure_ (i:=10) (N:=some 29) (v:=?_) (a':=?_) #[true,true,true,true,true,true,true,true,true,true,true] rfl rfl (any_of HT_.out (by kernel_rfl)) (fun _ _ _ h=>h) (Or.inl ⟨by rfl,?_⟩) ?_ ?_
    rotate_left
    ·intro w'
     go_simp
     with_reducible rfl
    rotate_left
    ·simp only [Act.put,zL0,zL1,zL2,i64_w,i32_w]
     rfl
    refine done_ (done_of HT_.out (by kernel_rfl)) ?_
    try go_wp2
    go_meet
    case rel=>exact ⟨_,(true),(by first|rfl|(simp;done)|(simp [*];done)),H',⟨by first|omega|exact Nat.le_refl _⟩,⟨by (with_reducible repeat (first|apply Kd.z4|apply Kd.z7|apply Kd.z6));exact Kd.z11 HO106.out (fun _ hk=>hk.1)⟩,⟨by (with_reducible repeat (first|apply Kd.z4|apply Kd.z7|apply Kd.z6));exact Kd.z11 HO109.out (fun _ hk=>hk.1)⟩,⟨by (with_reducible repeat (first|apply Kd.z4|apply Kd.z7|apply Kd.z6));exact Kd.z11 HO116.out (fun _ hk=>hk.1)⟩,⟨by (with_reducible repeat (first|apply Kd.z4|apply Kd.z7|apply Kd.z6));exact Kd.z11 HO119.out (fun _ hk=>hk.1)⟩,⟨by (with_reducible repeat (first|apply Kd.z4|apply Kd.z7|apply Kd.z6));exact Kd.z11 HO124.out (fun _ hk=>trivial)⟩,⟨by (with_reducible repeat (first|refine zq6 ?_ _|refine zq8 ?_|refine zq5 ?_ _));exact BK110.out⟩,⟨by (with_reducible repeat (first|refine zq6 ?_ _|refine zq8 ?_|refine zq5 ?_ _));exact BK125.out⟩,⟨by repeat (first|(with_reducible first|exact HB.out|apply zq4|apply zq0|apply zq3|refine zq2 ?_ GE110.out|refine zq2 ?_ GE125.out)|exact HB.out)⟩⟩
  case rest =>
   clear HC5
   try clear c1
   try clear c2
   try clear c2b0
   try clear c2b1
   try clear p2
   try clear c3
   try clear c8
   try clear c13
   try clear c20
   try clear c34
   try clear hcz14_0
   try clear hcz14_1
   try clear hcz14_2
   try clear hcz14_3
   try clear hcz14_4
   try clear hcz14_5
   try clear hcz14_6
   try clear hcz14_7
   try clear hcz8_0
   try clear hcz8_1
   try clear hcz8_2
   try clear hcz8_3
   try clear hfz14_0
   try clear hfz14_1
   try clear hfz14_2
   try clear hfz14_3
   try clear hfz14_4
   try clear hfz14_5
   try clear hfz14_6
   try clear hfz14_7
   try clear hfz8_0
   try clear hfz8_1
   try clear hfz8_2
   try clear hfz8_3
   obtain ⟨kq,x29_4,rfl,HA,HJ4,HO_111002,HO_111003,HO_126003,HO_126004,HO_126007,BK110,BK125,HB⟩:=hcut
   cases kq with
   | zero=>exact absurd HA.out (by simp [laws_FnCliNew.j0])
   | succ kj4 =>
    have H:=HA.out
    clear HA
    simp only [laws_FnCliNew.j0] at H
    by_cases c35:x29_4=true
    ·subst c35
     have H1:((spec_CliNew.f kj4 t101 t102 t103 t104 t107).bind fun bt141=>((laws_saCli.f kj4 t111 t112 t113 t114 t117 t120 t121 t122 bt141.1 bt141.2.1 bt141.2.2.1 bt141.2.2.2.1 bt141.2.2.2.2.1 bt141.2.2.2.2.2.1 bt141.2.2.2.2.2.2.1 bt141.2.2.2.2.2.2.2).bind fun t155=>(some t155)))=some r:=by rw [if_pos rfl] at H;exact H
     clear H
     have H:=H1
     clear H1
     replace H:=Option.bind_eq_some_iff.mp H
     obtain ⟨⟨t141,t142,t143,t144,t147,t150,t151,t152⟩,A360,H⟩:=H
     replace H:((laws_saCli.f kj4 t111 t112 t113 t114 t117 t120 t121 t122 t141 t142 t143 t144 t147 t150 t151 t152).bind fun t155=>(some t155))=some r:=H
     have A36:=zA A360
     clear A360
     replace H:=Option.bind_eq_some_iff.mp H
     obtain ⟨t155,A370,H⟩:=H
     replace H:(some t155)=some r:=H
     have A37:=zA A370
     clear A370
     obtain rfl:=Option.some.inj H
     try go_wp2
     have n0_:=zA (Kd.z6 HO_111002.out)
     have n1_:=zA (Kd.z6 HO_111003.out)
     have n2_:=zA (Kd.z6 HO_126003.out)
     have n3_:=zA (Kd.z6 HO_126004.out)
     have n4_:=zA (Kd.z6 HO_126007.out)
     have n5_:=zA (zq8 BK110.out)
     have n6_:=zA (zq8 BK125.out)
     have n7_:=zA (zq3 HB.out)
     clear HO_111002
     clear HO_111003
     clear HO_126003
     clear HO_126004
     clear HO_126007
     clear BK110
     clear BK125
     clear HB
     have HO_111002:=n0_
     have HO_111003:=n1_
     have HO_126003:=n2_
     have HO_126004:=n3_
     have HO_126007:=n4_
     have BK110:=n5_
     have BK125:=n6_
     have HB:=n7_
     clear n0_ n1_ n2_ n3_ n4_ n5_ n6_ n7_
     refine start_ (n:=6) (S:=fun w'=>w'.cell? ⟨gb125,0,none⟩=some (.string t111)∧w'.cell? ⟨gb125,1,none⟩=some (.string t112)∧w'.cell? ⟨gb125,2,none⟩=some (.string t113)∧w'.cell? ⟨gb125,3,none⟩=some (.slice Ao15 t114.length co15)∧w'.cell? ⟨gb125,4,none⟩=some (.slice Ao16 t117.length co16)∧w'.cell? ⟨gb125,5,none⟩=some (.int .i64 t120)∧w'.cell? ⟨gb125,6,none⟩=some (.int .i64 t121)∧w'.cell? ⟨gb125,7,none⟩=some (.slice Ao17 t122.length co17)∧w'.cell? ⟨gb110,0,none⟩=some (.string t102)∧w'.cell? ⟨gb110,1,none⟩=some (.string t103)∧w'.cell? ⟨gb110,2,none⟩=some (.slice Ao9 t104.length co9)∧w'.cell? ⟨gb110,3,none⟩=some (.slice Ao10 t107.length co10)) (ds:=[]) #[false,false,false,false,false,false] (by kernel_rfl) rfl rfl ⟨zq1 BK125.out 0,zq1 BK125.out 1,zq1 BK125.out 2,zq1 BK125.out 3,zq1 BK125.out 4,zq1 BK125.out 5,zq1 BK125.out 6,zq1 BK125.out 7,zq1 BK110.out 0,zq1 BK110.out 1,zq1 BK110.out 2,zq1 BK110.out 3⟩ (fun hHeld=>?_)
     generalize wc.drew=w38 at HO_111002 HO_111003 HO_126003 HO_126004 HO_126007 BK110 BK125 HB hHeld ⊢
     refine pure_ (i:=1) (N:=some 31) (v:=?_) (a':=?_) #[false,true,false,false,false,false] rfl rfl (by kernel_rfl) (fun _ _ _ h=>h) (Or.inl ⟨by rfl,?_⟩) ?_ ?_
     rotate_left
     ·intro w'
      go_simp
      with_reducible rfl
     rotate_left
     ·simp only [Act.put,zL0,zL1,zL2,i64_w,i32_w]
      rfl
     refine take_ (i:=0) (N:=some 30) (v:=?_) (a':=?_) #[true,true,false,false,false,false] rfl rfl (by kernel_rfl) (fun _ _ _ h=>h) (Or.inl ⟨by rfl,?_⟩) hHeld ?_ ?_
     rotate_left
     ·rintro w' ⟨s0,s1,s2,s3,s4,s5,s6,s7,s8,s9,s10,s11⟩
      go_simp
      with_reducible rfl
     rotate_left
     ·simp only [Act.put,zL0,zL1,zL2,i64_w,i32_w]
      rfl
     refine take_ (i:=2) (N:=some 32) (v:=?_) (a':=?_) #[true,true,true,false,false,false] rfl rfl (by kernel_rfl) (fun _ _ _ h=>h) (Or.inl ⟨by rfl,?_⟩) hHeld ?_ ?_
     rotate_left
     ·rintro w' ⟨s0,s1,s2,s3,s4,s5,s6,s7,s8,s9,s10,s11⟩
      go_simp
      with_reducible rfl
     rotate_left
     ·simp only [Act.put,zL0,zL1,zL2,i64_w,i32_w]
      rfl
     refine one_ (i:=3) (N:=some 33) #[true,true,true,true,false,false] rfl rfl (by kernel_rfl) (by decide) (fun K hK=>?_)
     refine goes_ Tryd.func37 (by kernel_rfl) rfl #[.string t101,.agg #[.string t102,.string t103,.slice Ao9 t104.length co9,.slice Ao10 t107.length co10]] (by rfl) rfl rfl (by (try simp only [zL3,zL4,zL5]);first|done|rfl|(simp only [zL6,zL7];rfl)) ?_
     with_reducible refine (spec_CliNew.calls kj4 t101 t102 t103 _ _ t104 _ _ t107 t141 t142 t143 t144 t147 t150 t151 t152 _ ?side1 ?side2 ?side3 ?side4 A36.out).mono ?_
     (case side1=>repeat (first|exact (Kd.z12 HO_111002.out).2.2|(with_reducible refine Kd.z0 ?_ _)|(with_reducible refine Kd.z3 ?_ _)|(with_reducible refine Kd.z2 ?_)))
     (case side2=>exact (Kd.z12 HO_111002.out).2.1)
     (case side3=>repeat (first|exact (Kd.z12 HO_111003.out).2.2|(with_reducible refine Kd.z0 ?_ _)|(with_reducible refine Kd.z3 ?_ _)|(with_reducible refine Kd.z2 ?_)))
     (case side4=>exact (Kd.z12 HO_111003.out).2.1)
     rintro e w39 ⟨v145,v148,v153,rfl,ho0,ho1,ho2,hb⟩
     refine ⟨_,rfl,?_⟩
     have n0_:=zA (Kd.R_elder' (by (with_reducible repeat (first|apply Kd.z4|apply Kd.z7|apply Kd.z6));exact HO_111002.out) (Kd.R_base ho0) hb)
     have n1_:=zA (Kd.R_elder' (by (with_reducible repeat (first|apply Kd.z4|apply Kd.z7|apply Kd.z6));exact HO_111003.out) (Kd.R_base ho1) hb)
     have n2_:=zA (Kd.R_elder' (by (with_reducible repeat (first|apply Kd.z4|apply Kd.z7|apply Kd.z6));exact HO_126003.out) (Kd.R_base ho0) hb)
     have n3_:=zA (Kd.R_elder' (by (with_reducible repeat (first|apply Kd.z4|apply Kd.z7|apply Kd.z6));exact HO_126004.out) (Kd.R_base ho1) hb)
     have n4_:=zA (Kd.R_elder' (by (with_reducible repeat (first|apply Kd.z4|apply Kd.z7|apply Kd.z6));exact HO_126007.out) (Kd.R_base ho2) hb)
     have n5_:=zA (Kd.z10 (Kd.R_new' (Kd.R_new' ho0 (Kd.R_lt (by (with_reducible repeat (first|apply Kd.z4|apply Kd.z7|apply Kd.z6));exact HO_111002.out))) (Kd.R_lt (by (with_reducible repeat (first|apply Kd.z4|apply Kd.z7|apply Kd.z6));exact HO_126003.out))) (zq14 (by repeat (first|(with_reducible first|exact HB.out|apply zq4|apply zq0|apply zq3|refine zq2 ?_ GE110.out|refine zq2 ?_ GE125.out)|exact HB.out))))
     have n6_:=zA (Kd.z10 (Kd.R_new' (Kd.R_new' ho1 (Kd.R_lt (by (with_reducible repeat (first|apply Kd.z4|apply Kd.z7|apply Kd.z6));exact HO_111003.out))) (Kd.R_lt (by (with_reducible repeat (first|apply Kd.z4|apply Kd.z7|apply Kd.z6));exact HO_126004.out))) (zq14 (by repeat (first|(with_reducible first|exact HB.out|apply zq4|apply zq0|apply zq3|refine zq2 ?_ GE110.out|refine zq2 ?_ GE125.out)|exact HB.out))))
     have n7_:=zA (Kd.z10 (Kd.R_new' ho2 (Kd.R_lt (by (with_reducible repeat (first|apply Kd.z4|apply Kd.z7|apply Kd.z6));exact HO_126007.out))) (zq14 (by repeat (first|(with_reducible first|exact HB.out|apply zq4|apply zq0|apply zq3|refine zq2 ?_ GE110.out|refine zq2 ?_ GE125.out)|exact HB.out))))
     have n8_:=zA (zq13 (by (with_reducible repeat (first|refine zq6 ?_ _|refine zq8 ?_|refine zq5 ?_ _));exact BK110.out) hb)
     have n9_:=zA (zq13 (by (with_reducible repeat (first|refine zq6 ?_ _|refine zq8 ?_|refine zq5 ?_ _));exact BK125.out) hb)
     have n10_:=zA (zq11 (by repeat (first|(with_reducible first|exact HB.out|apply zq4|apply zq0|apply zq3|refine zq2 ?_ GE110.out|refine zq2 ?_ GE125.out)|exact HB.out)) hb)
     clear HO_111002
     clear HO_111003
     clear HO_126003
     clear HO_126004
     clear HO_126007
     clear BK110
     clear BK125
     clear HB
     have HO_111002:=n0_
     have HO_111003:=n1_
     have HO_126003:=n2_
     have HO_126004:=n3_
     have HO_126007:=n4_
     have HO146:=n5_
     have HO149:=n6_
     have HO154:=n7_
     have BK110:=n8_
     have BK125:=n9_
     have HB:=n10_
     clear n0_ n1_ n2_ n3_ n4_ n5_ n6_ n7_ n8_ n9_ n10_
     (try clear hb)
     (try clear hk)
     (try clear ho0)
     (try clear ho1)
     (try clear ho2)
     obtain ⟨Ao40,co40,eo40⟩:=Kd.z13 HO146.out
     (first|subst eo40|(injection eo40 with f1_ f2_ f3_;have f4_:=f1_.symm;have f5_:=f3_.symm;clear f1_ f2_ f3_;subst f4_;subst f5_))
     obtain ⟨Ao41,co41,eo41⟩:=Kd.z13 HO149.out
     (first|subst eo41|(injection eo41 with f1_ f2_ f3_;have f4_:=f1_.symm;have f5_:=f3_.symm;clear f1_ f2_ f3_;subst f4_;subst f5_))
     obtain ⟨Ao42,co42,eo42⟩:=Kd.z13 HO154.out
     (first|subst eo42|(injection eo42 with f1_ f2_ f3_;have f4_:=f1_.symm;have f5_:=f3_.symm;clear f1_ f2_ f3_;subst f4_;subst f5_))
     refine hK.out _ _ ⟨zq1 BK125.out 0,zq1 BK125.out 1,zq1 BK125.out 2,zq1 BK125.out 3,zq1 BK125.out 4,zq1 BK125.out 5,zq1 BK125.out 6,zq1 BK125.out 7,zq1 BK110.out 0,zq1 BK110.out 1,zq1 BK110.out 2,zq1 BK110.out 3⟩ (fun hHeld=>?_)
     clear hK K
     refine norm_ (a':=?_) ?_ ?_
     rotate_left
     ·show Act.put _ (some 33) _=_
      simp only [Act.put,zL0,zL1,zL2,i64_w,i32_w]
      rfl
     refine one_ (i:=4) (N:=some 34) #[true,true,true,true,true,false] rfl rfl (by kernel_rfl) (by decide) (fun K hK=>?_)
     refine goes_ Tryd.func36 (by kernel_rfl) rfl #[.agg #[.string t111,.string t112,.string t113,.slice Ao15 t114.length co15,.slice Ao16 t117.length co16,.int .i64 t120,.int .i64 t121,.slice Ao17 t122.length co17],.agg #[.string t141,.string t142,.string t143,.slice Ao40 t144.length co40,.slice Ao41 t147.length co41,.int .i64 t150,.int .i64 t151,.slice Ao42 t152.length co42]] (by rfl) rfl rfl (by (try simp only [zL3,zL4,zL5]);first|done|rfl|(simp only [zL6,zL7];rfl)) ?_
     with_reducible refine (laws_saCli.calls kj4 t111 t112 t113 _ _ t114 _ _ t117 t120 t121 _ _ t122 t141 t142 t143 _ _ t144 _ _ t147 t150 t151 _ _ t152 t155 _ ?side1 ?side2 ?side3 ?side4 ?side5 ?side6 ?side7 ?side8 ?side9 ?side10 ?side11 ?side12 A37.out).mono ?_
     (case side1=>repeat (first|exact (Kd.z12 HO_126003.out).2.2|(with_reducible refine Kd.z0 ?_ _)|(with_reducible refine Kd.z3 ?_ _)|(with_reducible refine Kd.z2 ?_)))
     (case side2=>exact (Kd.z12 HO_126003.out).2.1)
     (case side3=>repeat (first|exact (Kd.z12 HO_126004.out).2.2|(with_reducible refine Kd.z0 ?_ _)|(with_reducible refine Kd.z3 ?_ _)|(with_reducible refine Kd.z2 ?_)))
     (case side4=>exact (Kd.z12 HO_126004.out).2.1)
     (case side5=>repeat (first|exact (Kd.z12 HO_126007.out).2.2|(with_reducible refine Kd.z0 ?_ _)|(with_reducible refine Kd.z3 ?_ _)|(with_reducible refine Kd.z2 ?_)))
     (case side6=>exact (Kd.z12 HO_126007.out).2.1)
     (case side7=>repeat (first|exact (Kd.z12 HO146.out).2.2|(with_reducible refine Kd.z0 ?_ _)|(with_reducible refine Kd.z3 ?_ _)|(with_reducible refine Kd.z2 ?_)))
     (case side8=>exact (Kd.z12 HO146.out).2.1)
     (case side9=>repeat (first|exact (Kd.z12 HO149.out).2.2|(with_reducible refine Kd.z0 ?_ _)|(with_reducible refine Kd.z3 ?_ _)|(with_reducible refine Kd.z2 ?_)))
     (case side10=>exact (Kd.z12 HO149.out).2.1)
     (case side11=>repeat (first|exact (Kd.z12 HO154.out).2.2|(with_reducible refine Kd.z0 ?_ _)|(with_reducible refine Kd.z3 ?_ _)|(with_reducible refine Kd.z2 ?_)))
     (case side12=>exact (Kd.z12 HO154.out).2.1)
     rintro e w43 ⟨rfl,hb⟩
     refine ⟨_,rfl,?_⟩
     have n0_:=zA (Kd.z5 (by (with_reducible repeat (first|apply Kd.z4|apply Kd.z7|apply Kd.z6));exact HO_111002.out) hb)
     have n1_:=zA (Kd.z5 (by (with_reducible repeat (first|apply Kd.z4|apply Kd.z7|apply Kd.z6));exact HO_111003.out) hb)
     have n2_:=zA (Kd.z5 (by (with_reducible repeat (first|apply Kd.z4|apply Kd.z7|apply Kd.z6));exact HO_126003.out) hb)
     have n3_:=zA (Kd.z5 (by (with_reducible repeat (first|apply Kd.z4|apply Kd.z7|apply Kd.z6));exact HO_126004.out) hb)
     have n4_:=zA (Kd.z5 (by (with_reducible repeat (first|apply Kd.z4|apply Kd.z7|apply Kd.z6));exact HO_126007.out) hb)
     have n5_:=zA (Kd.z5 (by (with_reducible repeat (first|apply Kd.z4|apply Kd.z7|apply Kd.z6));exact HO146.out) hb)
     have n6_:=zA (Kd.z5 (by (with_reducible repeat (first|apply Kd.z4|apply Kd.z7|apply Kd.z6));exact HO149.out) hb)
     have n7_:=zA (Kd.z5 (by (with_reducible repeat (first|apply Kd.z4|apply Kd.z7|apply Kd.z6));exact HO154.out) hb)
     have n8_:=zA (zq13 (by (with_reducible repeat (first|refine zq6 ?_ _|refine zq8 ?_|refine zq5 ?_ _));exact BK110.out) hb)
     have n9_:=zA (zq13 (by (with_reducible repeat (first|refine zq6 ?_ _|refine zq8 ?_|refine zq5 ?_ _));exact BK125.out) hb)
     have n10_:=zA (zq11 (by repeat (first|(with_reducible first|exact HB.out|apply zq4|apply zq0|apply zq3|refine zq2 ?_ GE110.out|refine zq2 ?_ GE125.out)|exact HB.out)) hb)
     clear HO_111002
     clear HO_111003
     clear HO_126003
     clear HO_126004
     clear HO_126007
     clear HO146
     clear HO149
     clear HO154
     clear BK110
     clear BK125
     clear HB
     have HO_111002:=n0_
     have HO_111003:=n1_
     have HO_126003:=n2_
     have HO_126004:=n3_
     have HO_126007:=n4_
     have HO146:=n5_
     have HO149:=n6_
     have HO154:=n7_
     have BK110:=n8_
     have BK125:=n9_
     have HB:=n10_
     clear n0_ n1_ n2_ n3_ n4_ n5_ n6_ n7_ n8_ n9_ n10_
     (try clear hb)
     (try clear hk)
     refine hK.out _ _ ⟨zq1 BK125.out 0,zq1 BK125.out 1,zq1 BK125.out 2,zq1 BK125.out 3,zq1 BK125.out 4,zq1 BK125.out 5,zq1 BK125.out 6,zq1 BK125.out 7,zq1 BK110.out 0,zq1 BK110.out 1,zq1 BK110.out 2,zq1 BK110.out 3⟩ (fun hHeld=>?_)
     clear hK K
     refine norm_ (a':=?_) ?_ ?_
     rotate_left
     ·show Act.put _ (some 34) _=_
      simp only [Act.put,zL0,zL1,zL2,i64_w,i32_w]
      rfl
     refine pure_ (i:=5) (N:=some 2) (v:=?_) (a':=?_) #[true,true,true,true,true,true] rfl rfl (by kernel_rfl) (fun _ _ _ h=>h) (Or.inl ⟨by rfl,?_⟩) ?_ ?_
     rotate_left
     ·intro w'
      go_simp
      with_reducible rfl
     rotate_left
     ·simp only [Act.put,zL0,zL1,zL2,i64_w,i32_w]
      rfl
     refine done_ (by kernel_rfl) ?_
     try go_wp2
     go_ret
     exact ⟨by first|rfl|(simp [zq16,zq17]<;>rfl)|(simp [*,zq16,zq17]<;>rfl)|(simp [*,zq16,zq17];cases t111.toList<;>rfl),by repeat (first|(with_reducible first|exact HB.out|apply zq4|apply zq0|apply zq3|refine zq2 ?_ GE110.out|refine zq2 ?_ GE125.out)|exact HB.out)⟩
    ·replace c35:=Bool.eq_false_iff.mpr c35
     subst c35
     have H1:((impl_CliOuts.f kj4 t111 t112 t113 t114 t117 t120 t121 t122).bind fun t156=>(laws_FnCliNew.l0 kj4 t156 0 t102 t103 t104 t107 t111 t112 t113 t114 t117 t120 t121 t122))=some r:=by rw [if_neg (show ¬ (false=true) by decide)] at H;exact H
     clear H
     have H:=H1
     clear H1
     replace H:=Option.bind_eq_some_iff.mp H
     obtain ⟨t156,A440,H⟩:=H
     replace H:(laws_FnCliNew.l0 kj4 t156 0 t102 t103 t104 t107 t111 t112 t113 t114 t117 t120 t121 t122)=some r:=H
     have A44:=zA A440
     clear A440
     have H':=zA H
     clear H
     have hnb45:=NB125_110.out
     have hnc45:=NB110_125.out
     have hcz46_0:wc.cell? ⟨gb125,0,none⟩=some (.string t111):=zq1 BK125.out 0
     have hcz46_1:wc.cell? ⟨gb125,1,none⟩=some (.string t112):=zq1 BK125.out 1
     have hcz46_2:wc.cell? ⟨gb125,2,none⟩=some (.string t113):=zq1 BK125.out 2
     have hcz46_3:wc.cell? ⟨gb125,3,none⟩=some (.slice Ao15 t114.length co15):=zq1 BK125.out 3
     have hcz46_4:wc.cell? ⟨gb125,4,none⟩=some (.slice Ao16 t117.length co16):=zq1 BK125.out 4
     have hcz46_5:wc.cell? ⟨gb125,5,none⟩=some (.int .i64 t120):=zq1 BK125.out 5
     have hcz46_6:wc.cell? ⟨gb125,6,none⟩=some (.int .i64 t121):=zq1 BK125.out 6
     have hcz46_7:wc.cell? ⟨gb125,7,none⟩=some (.slice Ao17 t122.length co17):=zq1 BK125.out 7
     have hfz46_0:=zq7 BK125.out 0
     have hfz46_1:=zq7 BK125.out 1
     have hfz46_2:=zq7 BK125.out 2
     have hfz46_3:=zq7 BK125.out 3
     have hfz46_4:=zq7 BK125.out 4
     have hfz46_5:=zq7 BK125.out 5
     have hfz46_6:=zq7 BK125.out 6
     have hfz46_7:=zq7 BK125.out 7
     go_wp2_with (first|((with_reducible refine zq19 (f:=38) rfl ?_);refine goesL_ (some 36) rfl rfl Tryd.func38 (by kernel_rfl) rfl #[.agg #[.string t111,.string t112,.string t113,.slice Ao15 t114.length co15,.slice Ao16 t117.length co16,.int .i64 t120,.int .i64 t121,.slice Ao17 t122.length co17]] rfl (by (try simp only [zL3,zL4,zL5]);first|done|rfl|(simp only [zL6,zL7];rfl)) ?_;(with_reducible refine (impl_CliOuts.calls kj4 t111 t112 t113 _ _ t114 _ _ t117 t120 t121 _ _ t122 t156 _ ?side1 ?side2 ?side3 ?side4 ?side5 ?side6 ?side7 A44.out).mono ?_);(case side1=>repeat (first|exact (Kd.z12 HO_126003.out).2.2|(with_reducible refine Kd.z0 ?_ _)|(with_reducible refine Kd.z3 ?_ _)|(with_reducible refine Kd.z2 ?_)));(case side2=>exact (Kd.z12 HO_126003.out).2.1);(case side3=>repeat (first|exact (Kd.z12 HO_126004.out).2.2|(with_reducible refine Kd.z0 ?_ _)|(with_reducible refine Kd.z3 ?_ _)|(with_reducible refine Kd.z2 ?_)));(case side4=>exact (Kd.z12 HO_126004.out).2.1);(case side5=>repeat (first|exact (Kd.z12 HO_126007.out).2.2|(with_reducible refine Kd.z0 ?_ _)|(with_reducible refine Kd.z3 ?_ _)|(with_reducible refine Kd.z2 ?_)));(case side6=>exact (Kd.z12 HO_126007.out).2.1);(case side7=>first|(with_reducible exact HG.out)|((with_reducible repeat (first|exact HG.out|apply GOK.drewN|apply GOK.drew));done)|exact GOK.below HG.out (by repeat (first|(with_reducible first|exact HB.out|apply zq4|apply zq0|apply zq3|refine zq2 ?_ GE110.out|refine zq2 ?_ GE125.out)|exact HB.out)));rintro e w47 ⟨v157,rfl,ho0,hb⟩;refine ⟨_,rfl,?_⟩;have n0_:=zA (Kd.z5 (by (with_reducible repeat (first|apply Kd.z4|apply Kd.z7|apply Kd.z6));exact HO_111002.out) hb);have n1_:=zA (Kd.z5 (by (with_reducible repeat (first|apply Kd.z4|apply Kd.z7|apply Kd.z6));exact HO_111003.out) hb);have n2_:=zA (Kd.z5 (by (with_reducible repeat (first|apply Kd.z4|apply Kd.z7|apply Kd.z6));exact HO_126003.out) hb);have n3_:=zA (Kd.z5 (by (with_reducible repeat (first|apply Kd.z4|apply Kd.z7|apply Kd.z6));exact HO_126004.out) hb);have n4_:=zA (Kd.R_elder' (by (with_reducible repeat (first|apply Kd.z4|apply Kd.z7|apply Kd.z6));exact HO_126007.out) (Kd.R_base ho0) hb);have n5_:=zA (Kd.z10 (Kd.R_new' ho0 (Kd.R_lt (by (with_reducible repeat (first|apply Kd.z4|apply Kd.z7|apply Kd.z6));exact HO_126007.out))) (zq14 (by repeat (first|(with_reducible first|exact HB.out|apply zq4|apply zq0|apply zq3|refine zq2 ?_ GE110.out|refine zq2 ?_ GE125.out)|exact HB.out))));have n6_:=zA (zq13 (by (with_reducible repeat (first|refine zq6 ?_ _|refine zq8 ?_|refine zq5 ?_ _));exact BK110.out) hb);have n7_:=zA (zq13 (by (with_reducible repeat (first|refine zq6 ?_ _|refine zq8 ?_|refine zq5 ?_ _));exact BK125.out) hb);have n8_:=zA (zq11 (by repeat (first|(with_reducible first|exact HB.out|apply zq4|apply zq0|apply zq3|refine zq2 ?_ GE110.out|refine zq2 ?_ GE125.out)|exact HB.out)) hb);clear HO_111002;clear HO_111003;clear HO_126003;clear HO_126004;clear HO_126007;clear BK110;clear BK125;clear HB;have HO_111002:=n0_;have HO_111003:=n1_;have HO_126003:=n2_;have HO_126004:=n3_;have HO_126007:=n4_;have HO158:=n5_;have BK110:=n6_;have BK125:=n7_;have HB:=n8_;clear n0_ n1_ n2_ n3_ n4_ n5_ n6_ n7_ n8_;(try clear hb);(try clear hk);(try clear ho0)))
     go_loopg [7] kj4 (fun kq v7 w'=>∃ (x7_2:Int),v7=.int .i64 x7_2∧Aside0 (laws_FnCliNew.l0 kq t156 x7_2 t102 t103 t104 t107 t111 t112 t113 t114 t117 t120 t121 t122=some r)∧Aside0 (kq≤kj4)∧Aside0 (Kd.R (Kd.int .i64) 3 w' w.heap.size (fun k_=>some k_≠((.slice Ao17 t122.length co17):Value).ownBlock) v157 t156)∧Aside0 (Kd.R k30 30 w' w.heap.size (fun k_=>some k_≠((.slice Ao15 t114.length co15):Value).ownBlock) (.slice Ao9 t104.length co9) t104)∧Aside0 (Kd.R Kd.string 9 w' w.heap.size (fun k_=>some k_≠((.slice Ao16 t117.length co16):Value).ownBlock) (.slice Ao10 t107.length co10) t107)∧Aside0 (Kd.R k30 30 w' w.heap.size (fun k_=>some k_≠((.slice Ao9 t104.length co9):Value).ownBlock) (.slice Ao15 t114.length co15) t114)∧Aside0 (Kd.R Kd.string 9 w' w.heap.size (fun k_=>some k_≠((.slice Ao10 t107.length co10):Value).ownBlock) (.slice Ao16 t117.length co16) t117)∧Aside0 (Kd.R (Kd.int .i64) 3 w' w.heap.size (fun k_=>some k_≠(v157:Value).ownBlock) (.slice Ao17 t122.length co17) t122)∧Aside0 (w'.heap[gb110]?=some (.cells #[.string t102,.string t103,(.slice Ao9 t104.length co9),(.slice Ao10 t107.length co10)] 33 (0,0)))∧Aside0 (w'.heap[gb125]?=some (.cells #[.string t111,.string t112,.string t113,(.slice Ao15 t114.length co15),(.slice Ao16 t117.length co16),.int .i64 t120,.int .i64 t121,(.slice Ao17 t122.length co17)] 67 (0,0)))∧Aside0 (Below w.heap.size w w'))
     case atStart=>exact ⟨(0),(by first|rfl|(simp;done)|(simp [*];done)),H',⟨Nat.le_refl _⟩,⟨by (with_reducible repeat (first|apply Kd.z4|apply Kd.z7|apply Kd.z6));exact Kd.z11 HO158.out (fun _ hk=>hk.2)⟩,⟨by (with_reducible repeat (first|apply Kd.z4|apply Kd.z7|apply Kd.z6));exact HO_111002.out⟩,⟨by (with_reducible repeat (first|apply Kd.z4|apply Kd.z7|apply Kd.z6));exact HO_111003.out⟩,⟨by (with_reducible repeat (first|apply Kd.z4|apply Kd.z7|apply Kd.z6));exact HO_126003.out⟩,⟨by (with_reducible repeat (first|apply Kd.z4|apply Kd.z7|apply Kd.z6));exact HO_126004.out⟩,⟨by (with_reducible repeat (first|apply Kd.z4|apply Kd.z7|apply Kd.z6));exact Kd.z11 HO_126007.out (fun _ hk=>hk.2)⟩,⟨by (with_reducible repeat (first|refine zq6 ?_ _|refine zq8 ?_|refine zq5 ?_ _));exact BK110.out⟩,⟨by (with_reducible repeat (first|refine zq6 ?_ _|refine zq8 ?_|refine zq5 ?_ _));exact BK125.out⟩,⟨by repeat (first|(with_reducible first|exact HB.out|apply zq4|apply zq0|apply zq3|refine zq2 ?_ GE110.out|refine zq2 ?_ GE125.out)|exact HB.out)⟩⟩
     case round =>
      clear H'
      try clear c1
      try clear c2
      try clear c2b0
      try clear c2b1
      try clear p2
      try clear c3
      try clear c4
      try clear c8
      try clear c13
      try clear c20
      try clear c34
      try clear c35
      try clear c36
      try clear c37
      try clear c38
      try clear c45
      try clear hcz14_0
      try clear hcz14_1
      try clear hcz14_2
      try clear hcz14_3
      try clear hcz14_4
      try clear hcz14_5
      try clear hcz14_6
      try clear hcz14_7
      try clear hcz46_0
      try clear hcz46_1
      try clear hcz46_2
      try clear hcz46_3
      try clear hcz46_4
      try clear hcz46_5
      try clear hcz46_6
      try clear hcz46_7
      try clear hcz8_0
      try clear hcz8_1
      try clear hcz8_2
      try clear hcz8_3
      try clear hfz14_0
      try clear hfz14_1
      try clear hfz14_2
      try clear hfz14_3
      try clear hfz14_4
      try clear hfz14_5
      try clear hfz14_6
      try clear hfz14_7
      try clear hfz46_0
      try clear hfz46_1
      try clear hfz46_2
      try clear hfz46_3
      try clear hfz46_4
      try clear hfz46_5
      try clear hfz46_6
      try clear hfz46_7
      try clear hfz8_0
      try clear hfz8_1
      try clear hfz8_2
      try clear hfz8_3
      try clear p2
      obtain ⟨x7_2,rfl,HA,HK2,HO_6,HO_111002,HO_111003,HO_126003,HO_126004,HO_126007,BK110,BK125,HB⟩:=hrel
      cases gk with
      | zero=>exact absurd HA.out (by simp [laws_FnCliNew.l0])
      | succ k2 =>
       have H:=HA.out
       clear HA
       simp only [laws_FnCliNew.l0] at H
       by_cases c48:x7_2 < (t156.length:Int)
       ·rw [if_pos c48] at H
        have c48b0:decide (x7_2 < (t156.length:Int))=true:=decide_eq_true c48
        clear c48
        by_cases c49:0≤x7_2
        ·rw [if_pos c49] at H
         have c49b0:decide (0≤x7_2)=true:=decide_eq_true c49
         clear c49
         by_cases c50:(rd t156 x7_2)=3
         ·rw [if_pos c50] at H
          have c50b0:((rd t156 x7_2)==3)=true:=beq_iff_eq.mpr c50
          have c50b1:((rd t156 x7_2) != 3)=false:=bne_eq_false_iff_eq.mpr c50
          clear c50
          have H':=zA H
          clear H
          obtain ⟨Ao51,co51,eo51⟩:=Kd.z13 HO_6.out
          subst eo51
          have p159:0≤(x7_2:Int):=of_decide_eq_true (by first|(with_reducible assumption)|assumption)
          have q159:x7_2 < (t156.length:Int):=of_decide_eq_true (by first|(with_reducible assumption)|assumption)
          obtain ⟨ad159,e159,hx159_0⟩:=Kd.at_int (Kd.z12 HO_6.out).2.2 x7_2 p159 q159
          cases e159
          replace p159:=eq_true p159
          replace q159:=eq_true q159
          go_wp2
          go_roundg k2
          case measure=>have:=HJ4.out;have:=HK2.out;omega
          case rel=>exact ⟨(wrap64 (x7_2+1)),(by first|rfl|(simp;done)|(simp [*];done)),H',⟨by have:=HJ4.out;have:=HK2.out;omega⟩,⟨by (with_reducible repeat (first|apply Kd.z4|apply Kd.z7|apply Kd.z6));exact HO_6.out⟩,⟨by (with_reducible repeat (first|apply Kd.z4|apply Kd.z7|apply Kd.z6));exact HO_111002.out⟩,⟨by (with_reducible repeat (first|apply Kd.z4|apply Kd.z7|apply Kd.z6));exact HO_111003.out⟩,⟨by (with_reducible repeat (first|apply Kd.z4|apply Kd.z7|apply Kd.z6));exact HO_126003.out⟩,⟨by (with_reducible repeat (first|apply Kd.z4|apply Kd.z7|apply Kd.z6));exact HO_126004.out⟩,⟨by (with_reducible repeat (first|apply Kd.z4|apply Kd.z7|apply Kd.z6));exact HO_126007.out⟩,⟨by (with_reducible repeat (first|refine zq6 ?_ _|refine zq8 ?_|refine zq5 ?_ _));exact BK110.out⟩,⟨by (with_reducible repeat (first|refine zq6 ?_ _|refine zq8 ?_|refine zq5 ?_ _));exact BK125.out⟩,⟨by repeat (first|(with_reducible first|exact HB.out|apply zq4|apply zq0|apply zq3|refine zq2 ?_ GE110.out|refine zq2 ?_ GE125.out)|exact HB.out)⟩⟩
         ·rw [if_neg c50] at H
          have c50b0:((rd t156 x7_2)==3)=false:=beq_eq_false_iff_ne.mpr c50
          have c50b1:((rd t156 x7_2) != 3)=true:=bne_iff_ne.mpr c50
          obtain rfl:=Option.some.inj H
          obtain ⟨Ao52,co52,eo52⟩:=Kd.z13 HO_6.out
          subst eo52
          have p159:0≤(x7_2:Int):=of_decide_eq_true (by first|(with_reducible assumption)|assumption)
          have q159:x7_2 < (t156.length:Int):=of_decide_eq_true (by first|(with_reducible assumption)|assumption)
          obtain ⟨ad159,e159,hx159_0⟩:=Kd.at_int (Kd.z12 HO_6.out).2.2 x7_2 p159 q159
          cases e159
          replace p159:=eq_true p159
          replace q159:=eq_true q159
          go_wp2
          go_ret
          exact ⟨by first|rfl|(simp [zq16,zq17]<;>rfl)|(simp [*,zq16,zq17]<;>rfl)|(simp [*,zq16,zq17];cases t111.toList<;>rfl),by repeat (first|(with_reducible first|exact HB.out|apply zq4|apply zq0|apply zq3|refine zq2 ?_ GE110.out|refine zq2 ?_ GE125.out)|exact HB.out)⟩
        ·rw [if_neg c49] at H
         exact absurd H (by simp)
       ·rw [if_neg c48] at H
        have c48b0:decide (x7_2 < (t156.length:Int))=false:=decide_eq_false c48
        clear c48
        replace H:=Option.bind_eq_some_iff.mp H
        obtain ⟨t160,A530,H⟩:=H
        replace H:(if t160=true then (some ((t156.length:Int)==(t104.length:Int))) else (some false))=some r:=H
        have A53:=zA A530
        clear A530
        by_cases c54:t160=true
        ·subst c54
         have H1:(some ((t156.length:Int)==(t104.length:Int)))=some r:=by rw [if_pos rfl] at H;exact H
         clear H
         have H:=H1
         clear H1
         obtain rfl:=Option.some.inj H
         obtain ⟨Ao55,co55,eo55⟩:=Kd.z13 HO_6.out
         subst eo55
         have hnb56:=NB125_110.out
         have hnc56:=NB110_125.out
         have hcz57_0:wr.cell? ⟨gb125,0,none⟩=some (.string t111):=zq1 BK125.out 0
         have hcz57_1:wr.cell? ⟨gb125,1,none⟩=some (.string t112):=zq1 BK125.out 1
         have hcz57_2:wr.cell? ⟨gb125,2,none⟩=some (.string t113):=zq1 BK125.out 2
         have hcz57_3:wr.cell? ⟨gb125,3,none⟩=some (.slice Ao15 t114.length co15):=zq1 BK125.out 3
         have hcz57_4:wr.cell? ⟨gb125,4,none⟩=some (.slice Ao16 t117.length co16):=zq1 BK125.out 4
         have hcz57_5:wr.cell? ⟨gb125,5,none⟩=some (.int .i64 t120):=zq1 BK125.out 5
         have hcz57_6:wr.cell? ⟨gb125,6,none⟩=some (.int .i64 t121):=zq1 BK125.out 6
         have hcz57_7:wr.cell? ⟨gb125,7,none⟩=some (.slice Ao17 t122.length co17):=zq1 BK125.out 7
         have hfz57_0:=zq7 BK125.out 0
         have hfz57_1:=zq7 BK125.out 1
         have hfz57_2:=zq7 BK125.out 2
         have hfz57_3:=zq7 BK125.out 3
         have hfz57_4:=zq7 BK125.out 4
         have hfz57_5:=zq7 BK125.out 5
         have hfz57_6:=zq7 BK125.out 6
         have hfz57_7:=zq7 BK125.out 7
         go_wp2_with (first|((with_reducible refine zq19 (f:=32) rfl ?_);refine goesL_ (some 49) rfl rfl Tryd.func32 (by kernel_rfl) rfl #[.agg #[.string t111,.string t112,.string t113,.slice Ao15 t114.length co15,.slice Ao16 t117.length co16,.int .i64 t120,.int .i64 t121,.slice Ao17 t122.length co17]] rfl (by (try simp only [zL3,zL4,zL5]);first|done|rfl|(simp only [zL6,zL7];rfl)) ?_;(with_reducible refine (impl_CliOk.calls k2 t111 t112 t113 _ _ t114 _ _ t117 t120 t121 _ _ t122 true _ ?side1 ?side2 ?side3 ?side4 ?side5 ?side6 ?side7 A53.out).mono ?_);(case side1=>repeat (first|exact (Kd.z12 HO_126003.out).2.2|(with_reducible refine Kd.z0 ?_ _)|(with_reducible refine Kd.z3 ?_ _)|(with_reducible refine Kd.z2 ?_)));(case side2=>exact (Kd.z12 HO_126003.out).2.1);(case side3=>repeat (first|exact (Kd.z12 HO_126004.out).2.2|(with_reducible refine Kd.z0 ?_ _)|(with_reducible refine Kd.z3 ?_ _)|(with_reducible refine Kd.z2 ?_)));(case side4=>exact (Kd.z12 HO_126004.out).2.1);(case side5=>repeat (first|exact (Kd.z12 HO_126007.out).2.2|(with_reducible refine Kd.z0 ?_ _)|(with_reducible refine Kd.z3 ?_ _)|(with_reducible refine Kd.z2 ?_)));(case side6=>exact (Kd.z12 HO_126007.out).2.1);(case side7=>first|(with_reducible exact HG.out)|((with_reducible repeat (first|exact HG.out|apply GOK.drewN|apply GOK.drew));done)|exact GOK.below HG.out (by repeat (first|(with_reducible first|exact HB.out|apply zq4|apply zq0|apply zq3|refine zq2 ?_ GE110.out|refine zq2 ?_ GE125.out)|exact HB.out)));rintro e w58 ⟨rfl,hb⟩;refine ⟨_,rfl,?_⟩;have n0_:=zA (Kd.z5 (by (with_reducible repeat (first|apply Kd.z4|apply Kd.z7|apply Kd.z6));exact HO_6.out) hb);have n1_:=zA (Kd.z5 (by (with_reducible repeat (first|apply Kd.z4|apply Kd.z7|apply Kd.z6));exact HO_111002.out) hb);have n2_:=zA (Kd.z5 (by (with_reducible repeat (first|apply Kd.z4|apply Kd.z7|apply Kd.z6));exact HO_111003.out) hb);have n3_:=zA (Kd.z5 (by (with_reducible repeat (first|apply Kd.z4|apply Kd.z7|apply Kd.z6));exact HO_126003.out) hb);have n4_:=zA (Kd.z5 (by (with_reducible repeat (first|apply Kd.z4|apply Kd.z7|apply Kd.z6));exact HO_126004.out) hb);have n5_:=zA (Kd.z5 (by (with_reducible repeat (first|apply Kd.z4|apply Kd.z7|apply Kd.z6));exact HO_126007.out) hb);have n6_:=zA (zq13 (by (with_reducible repeat (first|refine zq6 ?_ _|refine zq8 ?_|refine zq5 ?_ _));exact BK110.out) hb);have n7_:=zA (zq13 (by (with_reducible repeat (first|refine zq6 ?_ _|refine zq8 ?_|refine zq5 ?_ _));exact BK125.out) hb);have n8_:=zA (zq11 (by repeat (first|(with_reducible first|exact HB.out|apply zq4|apply zq0|apply zq3|refine zq2 ?_ GE110.out|refine zq2 ?_ GE125.out)|exact HB.out)) hb);clear HO_6;clear HO_111002;clear HO_111003;clear HO_126003;clear HO_126004;clear HO_126007;clear BK110;clear BK125;clear HB;have HO_6:=n0_;have HO_111002:=n1_;have HO_111003:=n2_;have HO_126003:=n3_;have HO_126004:=n4_;have HO_126007:=n5_;have BK110:=n6_;have BK125:=n7_;have HB:=n8_;clear n0_ n1_ n2_ n3_ n4_ n5_ n6_ n7_ n8_;(try clear hb);(try clear hk);have hcz59_0:w58.cell? ⟨gb110,0,none⟩=some (.string t102):=zq1 BK110.out 0;have hcz59_1:w58.cell? ⟨gb110,1,none⟩=some (.string t103):=zq1 BK110.out 1;have hcz59_2:w58.cell? ⟨gb110,2,none⟩=some (.slice Ao9 t104.length co9):=zq1 BK110.out 2;have hcz59_3:w58.cell? ⟨gb110,3,none⟩=some (.slice Ao10 t107.length co10):=zq1 BK110.out 3;have hfz59_0:=zq7 BK110.out 0;have hfz59_1:=zq7 BK110.out 1;have hfz59_2:=zq7 BK110.out 2;have hfz59_3:=zq7 BK110.out 3))
         go_ret
         exact ⟨by first|rfl|(simp [zq16,zq17]<;>rfl)|(simp [*,zq16,zq17]<;>rfl)|(simp [*,zq16,zq17];cases t111.toList<;>rfl),by repeat (first|(with_reducible first|exact HB.out|apply zq4|apply zq0|apply zq3|refine zq2 ?_ GE110.out|refine zq2 ?_ GE125.out)|exact HB.out)⟩
        ·replace c54:=Bool.eq_false_iff.mpr c54
         subst c54
         have H1:(some false)=some r:=by rw [if_neg (show ¬ (false=true) by decide)] at H;exact H
         clear H
         have H:=H1
         clear H1
         obtain rfl:=Option.some.inj H
         obtain ⟨Ao60,co60,eo60⟩:=Kd.z13 HO_6.out
         subst eo60
         have hnb61:=NB125_110.out
         have hnc61:=NB110_125.out
         have hcz62_0:wr.cell? ⟨gb125,0,none⟩=some (.string t111):=zq1 BK125.out 0
         have hcz62_1:wr.cell? ⟨gb125,1,none⟩=some (.string t112):=zq1 BK125.out 1
         have hcz62_2:wr.cell? ⟨gb125,2,none⟩=some (.string t113):=zq1 BK125.out 2
         have hcz62_3:wr.cell? ⟨gb125,3,none⟩=some (.slice Ao15 t114.length co15):=zq1 BK125.out 3
         have hcz62_4:wr.cell? ⟨gb125,4,none⟩=some (.slice Ao16 t117.length co16):=zq1 BK125.out 4
         have hcz62_5:wr.cell? ⟨gb125,5,none⟩=some (.int .i64 t120):=zq1 BK125.out 5
         have hcz62_6:wr.cell? ⟨gb125,6,none⟩=some (.int .i64 t121):=zq1 BK125.out 6
         have hcz62_7:wr.cell? ⟨gb125,7,none⟩=some (.slice Ao17 t122.length co17):=zq1 BK125.out 7
         have hfz62_0:=zq7 BK125.out 0
         have hfz62_1:=zq7 BK125.out 1
         have hfz62_2:=zq7 BK125.out 2
         have hfz62_3:=zq7 BK125.out 3
         have hfz62_4:=zq7 BK125.out 4
         have hfz62_5:=zq7 BK125.out 5
         have hfz62_6:=zq7 BK125.out 6
         have hfz62_7:=zq7 BK125.out 7
         go_wp2_with (first|((with_reducible refine zq19 (f:=32) rfl ?_);refine goesL_ (some 49) rfl rfl Tryd.func32 (by kernel_rfl) rfl #[.agg #[.string t111,.string t112,.string t113,.slice Ao15 t114.length co15,.slice Ao16 t117.length co16,.int .i64 t120,.int .i64 t121,.slice Ao17 t122.length co17]] rfl (by (try simp only [zL3,zL4,zL5]);first|done|rfl|(simp only [zL6,zL7];rfl)) ?_;(with_reducible refine (impl_CliOk.calls k2 t111 t112 t113 _ _ t114 _ _ t117 t120 t121 _ _ t122 false _ ?side1 ?side2 ?side3 ?side4 ?side5 ?side6 ?side7 A53.out).mono ?_);(case side1=>repeat (first|exact (Kd.z12 HO_126003.out).2.2|(with_reducible refine Kd.z0 ?_ _)|(with_reducible refine Kd.z3 ?_ _)|(with_reducible refine Kd.z2 ?_)));(case side2=>exact (Kd.z12 HO_126003.out).2.1);(case side3=>repeat (first|exact (Kd.z12 HO_126004.out).2.2|(with_reducible refine Kd.z0 ?_ _)|(with_reducible refine Kd.z3 ?_ _)|(with_reducible refine Kd.z2 ?_)));(case side4=>exact (Kd.z12 HO_126004.out).2.1);(case side5=>repeat (first|exact (Kd.z12 HO_126007.out).2.2|(with_reducible refine Kd.z0 ?_ _)|(with_reducible refine Kd.z3 ?_ _)|(with_reducible refine Kd.z2 ?_)));(case side6=>exact (Kd.z12 HO_126007.out).2.1);(case side7=>first|(with_reducible exact HG.out)|((with_reducible repeat (first|exact HG.out|apply GOK.drewN|apply GOK.drew));done)|exact GOK.below HG.out (by repeat (first|(with_reducible first|exact HB.out|apply zq4|apply zq0|apply zq3|refine zq2 ?_ GE110.out|refine zq2 ?_ GE125.out)|exact HB.out)));rintro e w63 ⟨rfl,hb⟩;refine ⟨_,rfl,?_⟩;have n0_:=zA (Kd.z5 (by (with_reducible repeat (first|apply Kd.z4|apply Kd.z7|apply Kd.z6));exact HO_6.out) hb);have n1_:=zA (Kd.z5 (by (with_reducible repeat (first|apply Kd.z4|apply Kd.z7|apply Kd.z6));exact HO_111002.out) hb);have n2_:=zA (Kd.z5 (by (with_reducible repeat (first|apply Kd.z4|apply Kd.z7|apply Kd.z6));exact HO_111003.out) hb);have n3_:=zA (Kd.z5 (by (with_reducible repeat (first|apply Kd.z4|apply Kd.z7|apply Kd.z6));exact HO_126003.out) hb);have n4_:=zA (Kd.z5 (by (with_reducible repeat (first|apply Kd.z4|apply Kd.z7|apply Kd.z6));exact HO_126004.out) hb);have n5_:=zA (Kd.z5 (by (with_reducible repeat (first|apply Kd.z4|apply Kd.z7|apply Kd.z6));exact HO_126007.out) hb);have n6_:=zA (zq13 (by (with_reducible repeat (first|refine zq6 ?_ _|refine zq8 ?_|refine zq5 ?_ _));exact BK110.out) hb);have n7_:=zA (zq13 (by (with_reducible repeat (first|refine zq6 ?_ _|refine zq8 ?_|refine zq5 ?_ _));exact BK125.out) hb);have n8_:=zA (zq11 (by repeat (first|(with_reducible first|exact HB.out|apply zq4|apply zq0|apply zq3|refine zq2 ?_ GE110.out|refine zq2 ?_ GE125.out)|exact HB.out)) hb);clear HO_6;clear HO_111002;clear HO_111003;clear HO_126003;clear HO_126004;clear HO_126007;clear BK110;clear BK125;clear HB;have HO_6:=n0_;have HO_111002:=n1_;have HO_111003:=n2_;have HO_126003:=n3_;have HO_126004:=n4_;have HO_126007:=n5_;have BK110:=n6_;have BK125:=n7_;have HB:=n8_;clear n0_ n1_ n2_ n3_ n4_ n5_ n6_ n7_ n8_;(try clear hb);(try clear hk)))
         go_ret
         exact ⟨by first|rfl|(simp [zq16,zq17]<;>rfl)|(simp [*,zq16,zq17]<;>rfl)|(simp [*,zq16,zq17];cases t111.toList<;>rfl),by repeat (first|(with_reducible first|exact HB.out|apply zq4|apply zq0|apply zq3|refine zq2 ?_ GE110.out|refine zq2 ?_ GE125.out)|exact HB.out)⟩
end Go.Proofs.YthkibaldmjfmmaaDoor.Q
