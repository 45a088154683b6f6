/- Of a text of ours what this claim needs. -/
import Derived.Test.YthkibaldmjfmmaaGreatDoorZzFnMailGetSQ0
import Derived.Test.YthkibaldmjfmmaaGreatDoorZzFnMailGetSQ19
import Derived.Test.YthkibaldmjfmmaaGreatDoorZzFnMailGetSQ20
namespace Go.Proofs.YthkibaldmjfmmaaGreatDoor.Q
open Go.RowKit Go.Proofs.YthkibaldmjfmmaaGreatDoorW.PrintWords Go.Proofs.YthkibaldmjfmmaaGreatDoorW.PrintLast Go.Proofs.YthkibaldmjfmmaaGreatDoorW.PrintMore
attribute [local go_sem] max2_int min2_int max_two min_two max_three min_three max_four min_four
set_option linter.unusedVariables false
set_option linter.unusedSimpArgs false
mutual
def spec_l2Get.l0:Nat→List ByteArray→Int→Int→ByteArray→ByteArray→List (S24)→Option (ByteArray × ByteArray × (List (S24)) × List ByteArray × Int)
 | 0,_,_,_,_,_,_=>none
 | k+1,x4,x7,x8,x140000,x140001,x140002=>if x8 < (x4.length:Int) then (if 0≤x8 then (if (rdOf ByteArray.empty x4 x8).toList=([]:List UInt8) then (spec_l2Get.j1 k x4 (wrap64 ((wrap64 (x7+((rdOf ByteArray.empty x4 x8).size:Int)))+2)) x8 (rdOf ByteArray.empty x4 x8) (decide (x8 > 1)) x140000 x140001 x140002) else (spec_l2Get.j1 k x4 (wrap64 ((wrap64 (x7+((rdOf ByteArray.empty x4 x8).size:Int)))+2)) x8 (rdOf ByteArray.empty x4 x8) false x140000 x140001 x140002)) else (none)) else (some (x140000,x140001,x140002,([]:List ByteArray),0))
def spec_l2Get.j1:Nat→List ByteArray→Int→Int→ByteArray→Bool→ByteArray→ByteArray→List (S24)→Option (ByteArray × ByteArray × (List (S24)) × List ByteArray × Int)
 | 0,_,_,_,_,_,_,_,_=>none
 | k+1,x4,x7,x8,x9,x36,x140000,x140001,x140002=>if x36=true then (some (x140000,x140001,x140002,([]:List ByteArray),x7)) else (if x8=0 then (if (x9.size:Int) > 5 then (if 0≤5 then (if 5≤(x9.size:Int) then (spec_l2Get.j2 k x4 x7 x8 x9 ((x9.extract 0 5).toList==([102,114,111,109,32]:List UInt8)) x140000 x140001 x140002) else (none)) else (none)) else (spec_l2Get.j2 k x4 x7 x8 x9 false x140000 x140001 x140002)) else (spec_l2Get.j2 k x4 x7 x8 x9 false x140000 x140001 x140002))
def spec_l2Get.j2:Nat→List ByteArray→Int→Int→ByteArray→Bool→ByteArray→ByteArray→List (S24)→Option (ByteArray × ByteArray × (List (S24)) × List ByteArray × Int)
 | 0,_,_,_,_,_,_,_,_=>none
 | k+1,x4,x7,x8,x9,x45,x140000,x140001,x140002=>if x45=true then (if 5≤(x9.size:Int) then ((spec_AddrGet.f k (x9.extract 5 x9.size)).bind fun bt141=>(if bt141.2.2=true then (spec_l2Get.l0 k x4 x7 (wrap64 (x8+1)) bt141.1 bt141.2.1 x140002) else (some (x140000,x140001,x140002,([]:List ByteArray),0)))) else (none)) else (if x8 > 0 then (if (x9.size:Int) > 3 then (if 0≤3 then (if 3≤(x9.size:Int) then (spec_l2Get.j3 k x4 x7 x8 x9 ((x9.extract 0 3).toList==([116,111,32]:List UInt8)) x140000 x140001 x140002) else (none)) else (none)) else (spec_l2Get.j3 k x4 x7 x8 x9 false x140000 x140001 x140002)) else (spec_l2Get.j3 k x4 x7 x8 x9 false x140000 x140001 x140002))
def spec_l2Get.j3:Nat→List ByteArray→Int→Int→ByteArray→Bool→ByteArray→ByteArray→List (S24)→Option (ByteArray × ByteArray × (List (S24)) × List ByteArray × Int)
 | 0,_,_,_,_,_,_,_,_=>none
 | k+1,x4,x7,x8,x9,x69,x140000,x140001,x140002=>if x69=true then (if 3≤(x9.size:Int) then ((spec_AddrGet.f k (x9.extract 3 x9.size)).bind fun bt145=>(if bt145.2.2=true then (if x140002.length < 4398046511104 then (spec_l2Get.l0 k x4 x7 (wrap64 (x8+1)) x140000 x140001 (x140002++[(⟨bt145.1,bt145.2.1⟩:S24)])) else (none)) else (some (x140000,x140001,x140002,([]:List ByteArray),0)))) else (none)) else (some (x140000,x140001,x140002,([]:List ByteArray),0))
end
def spec_l2Get.f (k:Nat) (a0:ByteArray):Option (ByteArray × ByteArray × (List (S24)) × List ByteArray × Int):=(spec_l2Lines.f k a0).bind fun bt135=>(spec_l2Get.l0 k bt135.1 0 0 (⟨#[]⟩:ByteArray) (⟨#[]⟩:ByteArray) ([]:List (S24)))
set_option maxHeartbeats 8000000 in
set_option maxRecDepth 100000 in
theorem spec_l2Get.calls (k:Nat) (a0:ByteArray) (r1:ByteArray) (r2:ByteArray) (r3:List (S24)) (r4:List ByteArray) (r5:Int) (w:World) (h:spec_l2Get.f k a0=some (r1,r2,r3,r4,r5)) :
 Calls Tryz.prog 37 #[.string a0] w fun e w'=>∃ v2_ v3_:Value,e=.returned (.tuple #[.agg #[.string r1,.string r2,v2_,v3_],.int .i64 r5])∧Kd.R k24 24 w' w.heap.size (fun _=>True) v2_ r3∧Kd.R Kd.string 9 w' w.heap.size (fun _=>True) v3_ r4∧Below w.heap.size w w':=by
 have hu28:=Tryz.underlying28
 have hu24:=Tryz.underlying24
 have HB:=Aside0.mk (Below.refl w.heap.size w)
 have H:((spec_l2Lines.f k a0).bind fun bt135=>(spec_l2Get.l0 k bt135.1 0 0 bz0 bz0 ([]:List (S24))))=some (r1,r2,r3,r4,r5):=h
 clear h
 replace H:=Option.bind_eq_some_iff.mp H
 obtain ⟨⟨t135,t136⟩,A20,H⟩:=H
 replace H:(spec_l2Get.l0 k t135 0 0 bz0 bz0 ([]:List (S24)))=some (r1,r2,r3,r4,r5):=H
 have A2:=Aside0.mk A20
 clear A20
 have H':=Aside0.mk H
 clear H
 go_enter Tryz.func37,Tryz.ntmps37
 go_wp2_with (first|((with_reducible refine zq21 (N:=2) rfl ?_);(try (refine gate_guard (by rfl) ?_;dsimp only));refine zq22 ?hg (N:=2) ?hd (cs:=#[.string bz0,.string bz0,.slice none 0 0,.slice none 0 0]) (t:=28) ?hr ?_;(case hd=>rfl);(case hg=>rfl);(case hr=>first|(go_simp;done)|(go_simp;rfl));intro gb134 hg w3 hbox hb;have n0_:=Aside0.mk (zq9 (by repeat (first|(with_reducible first|exact HB.out|apply zq1|apply zq0|apply zq2)|exact HB.out)) hb);have n1_:=Aside0.mk (hbox);have n2_:=Aside0.mk ((by rw [hg];exact (zq10 (by repeat (first|(with_reducible first|exact HB.out|apply zq1|apply zq0|apply zq2)|exact HB.out))):w.heap.size≤gb134));have n3_:=Aside0.mk ((by rw [hg];exact (zq10 (by repeat (first|(with_reducible first|exact HB.out|apply zq1|apply zq0|apply zq2)|exact HB.out))):w.heap.size≤gb134));clear HB;have HB:=n0_;have BK134:=n1_;have GW134:=n2_;have GE134:=n3_;clear n0_ n1_ n2_ n3_;clear hb hbox hg)|((with_reducible refine zq14 (f:=75) rfl ?_);refine zq20 (some 16) rfl rfl Tryz.func75 (by kernel_rfl) rfl #[.string a0] rfl (by (try simp only [List.map_toArray,List.map_cons,List.map_nil]);first|done|rfl|(simp only [List.length_drop,List.length_take];rfl)) ?_;(with_reducible refine (spec_l2Lines.calls k a0 t135 t136 _ A2.out).mono ?_);rintro e w4 ⟨v137,rfl,ho0,hb⟩;refine ⟨_,rfl,?_⟩;have n0_:=Aside0.mk (Kd.R_lower ho0 (zq10 (by repeat (first|(with_reducible first|exact HB.out|apply zq1|apply zq0|apply zq2|refine zq5 ?_ GE134.out)|exact HB.out))));have n1_:=Aside0.mk (zq13 (g:=gb134) (o:=.cells #[.string bz0,.string bz0,.slice none 0 0,.slice none 0 0] 28 (0,0)) (by (with_reducible repeat (first|refine zq4 ?_ _|refine zq7 ?_|refine zq3 ?_ _));exact BK134.out) hb);have n2_:=Aside0.mk (zq9 (by repeat (first|(with_reducible first|exact HB.out|apply zq1|apply zq0|apply zq2|refine zq5 ?_ GE134.out)|exact HB.out)) hb);clear BK134;clear HB;have HO138:=n0_;have BK134:=n1_;have HB:=n2_;clear n0_ n1_ n2_;(try clear hb);(try clear hb2);(try clear hk);(try clear hi);(try clear ho0))|((with_reducible refine zq21 (N:=6) rfl ?_);(try (refine gate_guard (by rfl) ?_;dsimp only));refine zq22 ?hg (N:=6) ?hd (cs:=#[.string bz0,.string bz0,.slice none 0 0,.slice none 0 0]) (t:=28) ?hr ?_;(case hd=>rfl);(case hg=>rfl);(case hr=>first|(go_simp;done)|(go_simp;rfl));intro gb139 hg w5 hbox hb;have n0_:=Aside0.mk (Kd.R_below (by (with_reducible repeat (first|apply Kd.R_alloc|apply Kd.R_drewN|apply Kd.R_drew));exact HO138.out) hb);have n1_:=Aside0.mk (zq13 (g:=gb134) (o:=.cells #[.string bz0,.string bz0,.slice none 0 0,.slice none 0 0] 28 (0,0)) (by (with_reducible repeat (first|refine zq4 ?_ _|refine zq7 ?_|refine zq3 ?_ _));exact BK134.out) hb);have n2_:=Aside0.mk (zq9 (by repeat (first|(with_reducible first|exact HB.out|apply zq1|apply zq0|apply zq2|refine zq5 ?_ GE134.out)|exact HB.out)) hb);have n3_:=Aside0.mk (hbox);have n4_:=Aside0.mk ((by rw [hg];exact (zq10 (by repeat (first|(with_reducible first|exact HB.out|apply zq1|apply zq0|apply zq2|refine zq5 ?_ GE134.out)|exact HB.out))):w.heap.size≤gb139));have n5_:=Aside0.mk ((by rw [hg];exact (zq10 (by repeat (first|(with_reducible first|exact HB.out|apply zq1|apply zq0|apply zq2|refine zq5 ?_ GE134.out)|exact HB.out))):w.heap.size≤gb139));have n6_:=Aside0.mk ((by rw [hg];exact Nat.ne_of_lt (blk_lt (g:=gb134) (o:=.cells #[.string bz0,.string bz0,.slice none 0 0,.slice none 0 0] 28 (0,0)) (by (with_reducible repeat (first|refine zq4 ?_ _|refine zq7 ?_|refine zq3 ?_ _));exact BK134.out)):gb134≠gb139));have n7_:=Aside0.mk ((by rw [hg];exact Nat.ne_of_gt (blk_lt (g:=gb134) (o:=.cells #[.string bz0,.string bz0,.slice none 0 0,.slice none 0 0] 28 (0,0)) (by (with_reducible repeat (first|refine zq4 ?_ _|refine zq7 ?_|refine zq3 ?_ _));exact BK134.out)):gb139≠gb134));clear HO138;clear BK134;clear HB;have HO138:=n0_;have BK134:=n1_;have HB:=n2_;have BK139:=n3_;have GW139:=n4_;have GE139:=n5_;have NB134_139:=n6_;have NB139_134:=n7_;clear n0_ n1_ n2_ n3_ n4_ n5_ n6_ n7_;clear hb hbox hg;have hnb6:=NB139_134.out;have hnc6:=NB134_139.out;have hcz7_0:w5.cell? ⟨gb139,0,none⟩=some (.string bz0):=(zq8 BK139.out 0).trans rfl;have hcz7_1:w5.cell? ⟨gb139,1,none⟩=some (.string bz0):=(zq8 BK139.out 1).trans rfl;have hcz7_2:w5.cell? ⟨gb139,2,none⟩=some (.slice none 0 0):=(zq8 BK139.out 2).trans rfl;have hcz7_3:w5.cell? ⟨gb139,3,none⟩=some (.slice none 0 0):=(zq8 BK139.out 3).trans rfl;have hfz7_0:=zq6 BK139.out 0;have hfz7_1:=zq6 BK139.out 1;have hfz7_2:=zq6 BK139.out 2;have hfz7_3:=zq6 BK139.out 3))
 go_loopg [7,8] k (fun kq v7 v8 w'=>∃ (x7_1:Int) (x8_1:Int) (x135000_1:ByteArray) (x135001_1:ByteArray) (x140000_1:ByteArray) (x140001_1:ByteArray) (x140002_1:List (S24)) (u140002:Value),v7=.int .i64 x7_1∧v8=.int .i64 x8_1∧Aside0 (spec_l2Get.l0 kq t135 x7_1 x8_1 x140000_1 x140001_1 x140002_1=some (r1,r2,r3,r4,r5))∧Aside0 (kq≤k)∧Aside0 (Kd.R Kd.string 9 w' w.heap.size (fun _=>True) v137 t135)∧Aside0 (Kd.R k24 24 w' w.heap.size (fun _=>True) u140002 x140002_1)∧Aside0 (w'.heap[gb134]?=some (.cells #[.string x135000_1,.string x135001_1,(.slice none 0 0),(.slice none 0 0)] 28 (0,0)))∧Aside0 (w'.heap[gb139]?=some (.cells #[.string x140000_1,.string x140001_1,u140002,(.slice none 0 0)] 28 (0,0)))∧Aside0 (Below w.heap.size w w'))
 case atStart=>exact ⟨(0),(0),(bz0),(bz0),(bz0),(bz0),(([]:List (S24))),(.slice none 0 0),(by first|rfl|(simp;done)|(simp [*];done)),(by first|rfl|(simp;done)|(simp [*];done)),H',⟨Nat.le_refl _⟩,⟨by (with_reducible repeat (first|apply Kd.R_alloc|apply Kd.R_drewN|apply Kd.R_drew));exact Kd.R_mono (Kd.R_far (p:=⟨gb139,3,none⟩) (Kd.R_far (p:=⟨gb139,2,none⟩) (Kd.R_far (p:=⟨gb139,1,none⟩) (Kd.R_far (p:=⟨gb139,0,none⟩) (Kd.R_types HO138.out BK139.out (by decide)) (fun _ hk=>hk.2) (.string bz0)) (fun _ hk=>hk.2) (.string bz0)) (fun _ hk=>hk.2) (.slice none 0 0)) (fun _ hk=>hk.2) (.slice none 0 0)) (fun _ hk=>trivial)⟩,⟨by first|exact Kd.R_nil _ _ _ _ _|exact Kd.N_nil _ _ _ _ _|exact Kd.V_nil _ _ _ _ _|exact Kd.Q_nil _ _ _ _ _|exact Kd.S_nil _ _ _ _ _⟩,⟨by (with_reducible repeat (first|refine zq4 ?_ _|refine zq7 ?_|refine zq3 ?_ _));refine zq23 ?_ NB134_139.out _;(with_reducible repeat (first|refine zq4 ?_ _|refine zq7 ?_|refine zq3 ?_ _));refine zq23 ?_ NB134_139.out _;(with_reducible repeat (first|refine zq4 ?_ _|refine zq7 ?_|refine zq3 ?_ _));refine zq23 ?_ NB134_139.out _;(with_reducible repeat (first|refine zq4 ?_ _|refine zq7 ?_|refine zq3 ?_ _));refine zq23 ?_ NB134_139.out _;(with_reducible repeat (first|refine zq4 ?_ _|refine zq7 ?_|refine zq3 ?_ _));exact BK134.out⟩,⟨by (with_reducible repeat (first|refine zq4 ?_ _|refine zq7 ?_|refine zq3 ?_ _));refine zq17 (cs:=#[.string bz0,.string bz0,.slice none 0 0,.slice none 0 0]) ?_ 3 _ rfl;(with_reducible repeat (first|refine zq4 ?_ _|refine zq7 ?_|refine zq3 ?_ _));refine zq17 (cs:=#[.string bz0,.string bz0,.slice none 0 0,.slice none 0 0]) ?_ 2 _ rfl;(with_reducible repeat (first|refine zq4 ?_ _|refine zq7 ?_|refine zq3 ?_ _));refine zq17 (cs:=#[.string bz0,.string bz0,.slice none 0 0,.slice none 0 0]) ?_ 1 _ rfl;(with_reducible repeat (first|refine zq4 ?_ _|refine zq7 ?_|refine zq3 ?_ _));refine zq17 (cs:=#[.string bz0,.string bz0,.slice none 0 0,.slice none 0 0]) ?_ 0 _ rfl;(with_reducible repeat (first|refine zq4 ?_ _|refine zq7 ?_|refine zq3 ?_ _));exact BK139.out⟩,⟨by repeat (first|(with_reducible first|exact HB.out|apply zq1|apply zq0|apply zq2|refine zq5 ?_ GE134.out|refine zq5 ?_ GE139.out)|exact HB.out)⟩⟩
 case round =>
  clear H'
  try clear p2
  try clear c3
  try clear c6
  try clear c7
  try clear hcz7_0
  try clear hcz7_1
  try clear hcz7_2
  try clear hcz7_3
  try clear hfz7_0
  try clear hfz7_1
  try clear hfz7_2
  try clear hfz7_3
  obtain ⟨x7_1,x8_1,x135000_1,x135001_1,x140000_1,x140001_1,x140002_1,u140002,rfl,rfl,HA,HK1,HO_4,HO_140002,BK134,BK139,HB⟩:=hrel
  cases gk with
  | zero=>exact absurd HA.out (by simp [spec_l2Get.l0])
  | succ k1 =>
   have H:=HA.out
   clear HA
   simp only [spec_l2Get.l0] at H
   by_cases c8:x8_1 < (t135.length:Int)
   ·rw [if_pos c8] at H
    have c8b0:decide (x8_1 < (t135.length:Int))=true:=decide_eq_true c8
    clear c8
    by_cases c9:0≤x8_1
    ·rw [if_pos c9] at H
     have c9b0:decide (0≤x8_1)=true:=decide_eq_true c9
     clear c9
     have HC10:=Aside0.mk H
     clear H
     obtain ⟨Ao11,co11,eo11⟩:=Kd.R_slice HO_4.out
     subst eo11
     have p140:0≤(x8_1:Int):=of_decide_eq_true (by first|(with_reducible assumption)|assumption)
     have q140:x8_1 < (t135.length:Int):=of_decide_eq_true (by first|(with_reducible assumption)|assumption)
     obtain ⟨ad140,e140,hx140_0⟩:=Kd.at_string (Kd.R_reads' HO_4.out).2.2 x8_1 p140 q140
     cases e140
     replace p140:=eq_true p140
     replace q140:=eq_true q140
     go_upto_region 10 with (fail)
     go_cut [36] (fun v36 wc=>∃ (kq:Nat) (x36_9:Bool),v36=.bool x36_9∧Aside0 (spec_l2Get.j1 kq t135 (wrap64 ((wrap64 (x7_1+((rdOf ByteArray.empty t135 x8_1).size:Int)))+2)) x8_1 (rdOf ByteArray.empty t135 x8_1) x36_9 x140000_1 x140001_1 x140002_1=some (r1,r2,r3,r4,r5))∧Aside0 (kq≤k1)∧Aside0 (Kd.R Kd.string 9 wc w.heap.size (fun _=>True) (.slice (some ad140) t135.length co11) t135)∧Aside0 (Kd.R k24 24 wc w.heap.size (fun _=>True) u140002 x140002_1)∧Aside0 (wc.heap[gb134]?=some (.cells #[.string x135000_1,.string x135001_1,(.slice none 0 0),(.slice none 0 0)] 28 (0,0)))∧Aside0 (wc.heap[gb139]?=some (.cells #[.string x140000_1,.string x140001_1,u140002,(.slice none 0 0)] 28 (0,0)))∧Aside0 (Below w.heap.size w wc))
     case first =>
      have H:=HC10.out
      clear HC10
      by_cases c12:(rdOf ByteArray.empty t135 x8_1).toList=([]:List UInt8)
      ·rw [if_pos c12] at H
       have c12b0:((rdOf ByteArray.empty t135 x8_1).toList==([]:List UInt8))=true:=beq_iff_eq.mpr c12
       have c12b1:((rdOf ByteArray.empty t135 x8_1).toList != ([]:List UInt8))=false:=bne_eq_false_iff_eq.mpr c12
       clear c12
       (first|rw [c12b0]|(simp only [i64_w,i32_w];rw [c12b0])|skip)
       have H':=Aside0.mk H
       clear H
       go_wp2
       go_meet
       case rel=>exact ⟨_,(decide (x8_1 > 1)),(by first|rfl|(simp;done)|(simp [*];done)),H',⟨by have:=HK1.out;first|omega|exact Nat.le_refl _⟩,⟨by (with_reducible repeat (first|apply Kd.R_alloc|apply Kd.R_drewN|apply Kd.R_drew));exact HO_4.out⟩,⟨by (with_reducible repeat (first|apply Kd.R_alloc|apply Kd.R_drewN|apply Kd.R_drew));exact HO_140002.out⟩,⟨by (with_reducible repeat (first|refine zq4 ?_ _|refine zq7 ?_|refine zq3 ?_ _));exact BK134.out⟩,⟨by (with_reducible repeat (first|refine zq4 ?_ _|refine zq7 ?_|refine zq3 ?_ _));exact BK139.out⟩,⟨by repeat (first|(with_reducible first|exact HB.out|apply zq1|apply zq0|apply zq2|refine zq5 ?_ GE134.out|refine zq5 ?_ GE139.out)|exact HB.out)⟩⟩
      ·rw [if_neg c12] at H
       have c12b0:((rdOf ByteArray.empty t135 x8_1).toList==([]:List UInt8))=false:=beq_eq_false_iff_ne.mpr c12
       have c12b1:((rdOf ByteArray.empty t135 x8_1).toList != ([]:List UInt8))=true:=bne_iff_ne.mpr c12
       (first|rw [c12b0]|(simp only [i64_w,i32_w];rw [c12b0])|skip)
       have H':=Aside0.mk H
       clear H
       go_wp2
       go_meet
       case rel=>exact ⟨_,(false),(by first|rfl|(simp;done)|(simp [*];done)),H',⟨by have:=HK1.out;first|omega|exact Nat.le_refl _⟩,⟨by (with_reducible repeat (first|apply Kd.R_alloc|apply Kd.R_drewN|apply Kd.R_drew));exact HO_4.out⟩,⟨by (with_reducible repeat (first|apply Kd.R_alloc|apply Kd.R_drewN|apply Kd.R_drew));exact HO_140002.out⟩,⟨by (with_reducible repeat (first|refine zq4 ?_ _|refine zq7 ?_|refine zq3 ?_ _));exact BK134.out⟩,⟨by (with_reducible repeat (first|refine zq4 ?_ _|refine zq7 ?_|refine zq3 ?_ _));exact BK139.out⟩,⟨by repeat (first|(with_reducible first|exact HB.out|apply zq1|apply zq0|apply zq2|refine zq5 ?_ GE134.out|refine zq5 ?_ GE139.out)|exact HB.out)⟩⟩
     case rest =>
      clear HC10
      try clear c1
      try clear p1
      try clear q1
      try clear hx1
      try clear p2
      try clear c3
      try clear c6
      try clear p6
      try clear c7
      try clear c8
      try clear c8b0
      try clear c9
      try clear c9b0
      try clear c12
      try clear c12b0
      try clear c12b1
      try clear hcz7_0
      try clear hcz7_1
      try clear hcz7_2
      try clear hcz7_3
      try clear hfz7_0
      try clear hfz7_1
      try clear hfz7_2
      try clear hfz7_3
      try clear hx140_0
      try clear p140
      try clear p2
      try clear q140
      obtain ⟨kq,x36_9,rfl,HA,HJ9,HO_4,HO_140002,BK134,BK139,HB⟩:=hcut
      cases kq with
      | zero=>exact absurd HA.out (by simp [spec_l2Get.j1])
      | succ kj9 =>
       have H:=HA.out
       clear HA
       simp only [spec_l2Get.j1] at H
       by_cases c13:x36_9=true
       ·subst c13
        have H1:(some (x140000_1,x140001_1,x140002_1,([]:List ByteArray),(wrap64 ((wrap64 (x7_1+((rdOf ByteArray.empty t135 x8_1).size:Int)))+2))))=some (r1,r2,r3,r4,r5):=by rw [if_pos rfl] at H;exact H
        clear H
        have H:=H1
        clear H1
        simp only [Option.some.injEq,Prod.mk.injEq] at H
        obtain ⟨rfl,rfl,rfl,rfl,rfl⟩:=H
        have hnb14:=NB139_134.out
        have hnc14:=NB134_139.out
        have hcz15_0:wc.cell? ⟨gb139,0,none⟩=some (.string x140000_1):=(zq8 BK139.out 0).trans rfl
        have hcz15_1:wc.cell? ⟨gb139,1,none⟩=some (.string x140001_1):=(zq8 BK139.out 1).trans rfl
        have hcz15_2:wc.cell? ⟨gb139,2,none⟩=some (u140002):=(zq8 BK139.out 2).trans rfl
        have hcz15_3:wc.cell? ⟨gb139,3,none⟩=some (.slice none 0 0):=(zq8 BK139.out 3).trans rfl
        have hfz15_0:=zq6 BK139.out 0
        have hfz15_1:=zq6 BK139.out 1
        have hfz15_2:=zq6 BK139.out 2
        have hfz15_3:=zq6 BK139.out 3
        have hcz16_0:wc.cell? ⟨gb134,0,none⟩=some (.string x135000_1):=(zq8 BK134.out 0).trans rfl
        have hcz16_1:wc.cell? ⟨gb134,1,none⟩=some (.string x135001_1):=(zq8 BK134.out 1).trans rfl
        have hcz16_2:wc.cell? ⟨gb134,2,none⟩=some (.slice none 0 0):=(zq8 BK134.out 2).trans rfl
        have hcz16_3:wc.cell? ⟨gb134,3,none⟩=some (.slice none 0 0):=(zq8 BK134.out 3).trans rfl
        have hfz16_0:=zq6 BK134.out 0
        have hfz16_1:=zq6 BK134.out 1
        have hfz16_2:=zq6 BK134.out 2
        have hfz16_3:=zq6 BK134.out 3
        obtain ⟨Ao17,co17,eo17⟩:=Kd.R_slice HO_140002.out
        subst eo17
        go_wp2
        refine bodyPost_ret (results_ct rfl _ _ gb134 28 #[.string x140000_1,.string x140001_1,.slice Ao17 x140002_1.length co17,.slice none 0 0] (0,0) _ rfl (by (with_reducible repeat (first|refine zq4 ?_ _|refine zq7 ?_|refine zq3 ?_ _));refine zq17 (cs:=#[.string x140000_1,.string x140001_1,.slice Ao17 x140002_1.length co17,.slice none 0 0]) ?_ 3 _ rfl;(with_reducible repeat (first|refine zq4 ?_ _|refine zq7 ?_|refine zq3 ?_ _));refine zq17 (cs:=#[.string x140000_1,.string x140001_1,.slice none 0 0,.slice none 0 0]) ?_ 2 _ rfl;(with_reducible repeat (first|refine zq4 ?_ _|refine zq7 ?_|refine zq3 ?_ _));refine zq17 (cs:=#[.string x140000_1,.string x135001_1,.slice none 0 0,.slice none 0 0]) ?_ 1 _ rfl;(with_reducible repeat (first|refine zq4 ?_ _|refine zq7 ?_|refine zq3 ?_ _));refine zq17 (cs:=#[.string x135000_1,.string x135001_1,.slice none 0 0,.slice none 0 0]) ?_ 0 _ rfl;(with_reducible repeat (first|refine zq4 ?_ _|refine zq7 ?_|refine zq3 ?_ _));exact BK134.out) Tryz.underlying28 rfl (by kernel_rfl)) rfl ?_
        exact ⟨_,_,by first|rfl|(simp [zq11,zq12]<;>rfl)|(simp [*,zq11,zq12]<;>rfl),by (with_reducible repeat (first|apply Kd.R_alloc|apply Kd.R_drewN|apply Kd.R_drew));exact Kd.R_mono (Kd.R_far (p:=⟨gb134,3,none⟩) (Kd.R_far (p:=⟨gb134,2,none⟩) (Kd.R_far (p:=⟨gb134,1,none⟩) (Kd.R_far (p:=⟨gb134,0,none⟩) (Kd.R_types HO_140002.out BK134.out (by decide)) (fun _ hk=>hk.2) (.string x140000_1)) (fun _ hk=>hk.2) (.string x140001_1)) (fun _ hk=>hk.2) (.slice Ao17 x140002_1.length co17)) (fun _ hk=>hk.2) (.slice none 0 0)) (fun _ hk=>trivial),by first|exact Kd.R_nil _ _ _ _ _|exact Kd.N_nil _ _ _ _ _|exact Kd.V_nil _ _ _ _ _|exact Kd.Q_nil _ _ _ _ _|exact Kd.S_nil _ _ _ _ _,by repeat (first|(with_reducible first|exact HB.out|apply zq1|apply zq0|apply zq2|refine zq5 ?_ GE134.out|refine zq5 ?_ GE139.out)|exact HB.out)⟩
       ·replace c13:=Bool.eq_false_iff.mpr c13
        subst c13
        have H1:(if x8_1=0 then (if ((rdOf ByteArray.empty t135 x8_1).size:Int) > 5 then (if 0≤5 then (if 5≤((rdOf ByteArray.empty t135 x8_1).size:Int) then (spec_l2Get.j2 kj9 t135 (wrap64 ((wrap64 (x7_1+((rdOf ByteArray.empty t135 x8_1).size:Int)))+2)) x8_1 (rdOf ByteArray.empty t135 x8_1) (((rdOf ByteArray.empty t135 x8_1).extract 0 5).toList==([102,114,111,109,32]:List UInt8)) x140000_1 x140001_1 x140002_1) else (none)) else (none)) else (spec_l2Get.j2 kj9 t135 (wrap64 ((wrap64 (x7_1+((rdOf ByteArray.empty t135 x8_1).size:Int)))+2)) x8_1 (rdOf ByteArray.empty t135 x8_1) false x140000_1 x140001_1 x140002_1)) else (spec_l2Get.j2 kj9 t135 (wrap64 ((wrap64 (x7_1+((rdOf ByteArray.empty t135 x8_1).size:Int)))+2)) x8_1 (rdOf ByteArray.empty t135 x8_1) false x140000_1 x140001_1 x140002_1))=some (r1,r2,r3,r4,r5):=by rw [if_neg (show ¬ (false=true) by decide)] at H;exact H
        clear H
        have H:=H1
        clear H1
        have HC18:=Aside0.mk H
        clear H
        go_upto_region 12 with (fail)
        go_cut [45] (fun v45 wc=>∃ (kq:Nat) (x45_17:Bool),v45=.bool x45_17∧Aside0 (spec_l2Get.j2 kq t135 (wrap64 ((wrap64 (x7_1+((rdOf ByteArray.empty t135 x8_1).size:Int)))+2)) x8_1 (rdOf ByteArray.empty t135 x8_1) x45_17 x140000_1 x140001_1 x140002_1=some (r1,r2,r3,r4,r5))∧Aside0 (kq≤kj9)∧Aside0 (Kd.R Kd.string 9 wc w.heap.size (fun _=>True) (.slice (some ad140) t135.length co11) t135)∧Aside0 (Kd.R k24 24 wc w.heap.size (fun _=>True) u140002 x140002_1)∧Aside0 (wc.heap[gb134]?=some (.cells #[.string x135000_1,.string x135001_1,(.slice none 0 0),(.slice none 0 0)] 28 (0,0)))∧Aside0 (wc.heap[gb139]?=some (.cells #[.string x140000_1,.string x140001_1,u140002,(.slice none 0 0)] 28 (0,0)))∧Aside0 (Below w.heap.size w wc))
        case first =>
         have H:=HC18.out
         clear HC18
         by_cases c19:x8_1=0
         ·rw [if_pos c19] at H
          have c19b0:(x8_1==0)=true:=beq_iff_eq.mpr c19
          have c19b1:(x8_1 != 0)=false:=bne_eq_false_iff_eq.mpr c19
          clear c19
          (first|rw [c19b0]|(simp only [i64_w,i32_w];rw [c19b0])|skip)
          by_cases c20:((rdOf ByteArray.empty t135 x8_1).size:Int) > 5
          ·rw [if_pos c20] at H
           have c20b0:decide (5 < ((rdOf ByteArray.empty t135 x8_1).size:Int))=true:=decide_eq_true c20
           have c20b1:decide (5 < (rdOf ByteArray.empty t135 x8_1).size)=true:=decide_eq_true (by omega)
           clear c20
           by_cases c21:0≤5
           ·rw [if_pos c21] at H
            have c21b0:=eq_true c21
            have c21b1:decide (0≤5)=true:=decide_eq_true c21
            clear c21
            by_cases c22:5≤((rdOf ByteArray.empty t135 x8_1).size:Int)
            ·rw [if_pos c22] at H
             have c22b0:=eq_true c22
             have c22b1:decide (5≤((rdOf ByteArray.empty t135 x8_1).size:Int))=true:=decide_eq_true c22
             clear c22
             have H':=Aside0.mk H
             clear H
             go_wp2
             go_meet
             case rel=>exact ⟨_,((((rdOf ByteArray.empty t135 x8_1).extract 0 5).toList==([102,114,111,109,32]:List UInt8))),(by first|rfl|(simp;done)|(simp [*];done)),H',⟨by have:=HK1.out;have:=HJ9.out;first|omega|exact Nat.le_refl _⟩,⟨by (with_reducible repeat (first|apply Kd.R_alloc|apply Kd.R_drewN|apply Kd.R_drew));exact HO_4.out⟩,⟨by (with_reducible repeat (first|apply Kd.R_alloc|apply Kd.R_drewN|apply Kd.R_drew));exact HO_140002.out⟩,⟨by (with_reducible repeat (first|refine zq4 ?_ _|refine zq7 ?_|refine zq3 ?_ _));exact BK134.out⟩,⟨by (with_reducible repeat (first|refine zq4 ?_ _|refine zq7 ?_|refine zq3 ?_ _));exact BK139.out⟩,⟨by repeat (first|(with_reducible first|exact HB.out|apply zq1|apply zq0|apply zq2|refine zq5 ?_ GE134.out|refine zq5 ?_ GE139.out)|exact HB.out)⟩⟩
            ·rw [if_neg c22] at H
             exact absurd H (by simp)
           ·rw [if_neg c21] at H
            exact absurd H (by simp)
          ·rw [if_neg c20] at H
           have c20b0:decide (5 < ((rdOf ByteArray.empty t135 x8_1).size:Int))=false:=decide_eq_false c20
           have c20b1:decide (5 < (rdOf ByteArray.empty t135 x8_1).size)=false:=decide_eq_false (by omega)
           clear c20
           have H':=Aside0.mk H
           clear H
           go_wp2
           go_meet
           case rel=>exact ⟨_,(false),(by first|rfl|(simp;done)|(simp [*];done)),H',⟨by have:=HK1.out;have:=HJ9.out;first|omega|exact Nat.le_refl _⟩,⟨by (with_reducible repeat (first|apply Kd.R_alloc|apply Kd.R_drewN|apply Kd.R_drew));exact HO_4.out⟩,⟨by (with_reducible repeat (first|apply Kd.R_alloc|apply Kd.R_drewN|apply Kd.R_drew));exact HO_140002.out⟩,⟨by (with_reducible repeat (first|refine zq4 ?_ _|refine zq7 ?_|refine zq3 ?_ _));exact BK134.out⟩,⟨by (with_reducible repeat (first|refine zq4 ?_ _|refine zq7 ?_|refine zq3 ?_ _));exact BK139.out⟩,⟨by repeat (first|(with_reducible first|exact HB.out|apply zq1|apply zq0|apply zq2|refine zq5 ?_ GE134.out|refine zq5 ?_ GE139.out)|exact HB.out)⟩⟩
         ·rw [if_neg c19] at H
          have c19b0:(x8_1==0)=false:=beq_eq_false_iff_ne.mpr c19
          have c19b1:(x8_1 != 0)=true:=bne_iff_ne.mpr c19
          (first|rw [c19b0]|(simp only [i64_w,i32_w];rw [c19b0])|skip)
          have H':=Aside0.mk H
          clear H
          go_wp2
          go_meet
          case rel=>exact ⟨_,(false),(by first|rfl|(simp;done)|(simp [*];done)),H',⟨by have:=HK1.out;have:=HJ9.out;first|omega|exact Nat.le_refl _⟩,⟨by (with_reducible repeat (first|apply Kd.R_alloc|apply Kd.R_drewN|apply Kd.R_drew));exact HO_4.out⟩,⟨by (with_reducible repeat (first|apply Kd.R_alloc|apply Kd.R_drewN|apply Kd.R_drew));exact HO_140002.out⟩,⟨by (with_reducible repeat (first|refine zq4 ?_ _|refine zq7 ?_|refine zq3 ?_ _));exact BK134.out⟩,⟨by (with_reducible repeat (first|refine zq4 ?_ _|refine zq7 ?_|refine zq3 ?_ _));exact BK139.out⟩,⟨by repeat (first|(with_reducible first|exact HB.out|apply zq1|apply zq0|apply zq2|refine zq5 ?_ GE134.out|refine zq5 ?_ GE139.out)|exact HB.out)⟩⟩
        case rest =>
         clear HC18
         try clear c1
         try clear p1
         try clear q1
         try clear hx1
         try clear c2
         try clear p2
         try clear c3
         try clear c6
         try clear p6
         try clear c7
         try clear c8
         try clear c8b0
         try clear c9
         try clear c9b0
         try clear c12
         try clear c12b0
         try clear c12b1
         try clear c13
         try clear c14
         try clear p14
         try clear q14
         try clear hx14
         try clear c19
         try clear c19b0
         try clear c19b1
         try clear c20
         try clear c20b0
         try clear c20b1
         try clear c21
         try clear c21b0
         try clear c21b1
         try clear c22
         try clear c22b0
         try clear c22b1
         try clear hcz15_0
         try clear hcz15_1
         try clear hcz15_2
         try clear hcz15_3
         try clear hcz16_0
         try clear hcz16_1
         try clear hcz16_2
         try clear hcz16_3
         try clear hcz7_0
         try clear hcz7_1
         try clear hcz7_2
         try clear hcz7_3
         try clear hfz15_0
         try clear hfz15_1
         try clear hfz15_2
         try clear hfz15_3
         try clear hfz16_0
         try clear hfz16_1
         try clear hfz16_2
         try clear hfz16_3
         try clear hfz7_0
         try clear hfz7_1
         try clear hfz7_2
         try clear hfz7_3
         try clear hx140_0
         try clear p1
         try clear p140
         try clear p2
         try clear p6
         try clear q1
         try clear q140
         obtain ⟨kq,x45_17,rfl,HA,HJ17,HO_4,HO_140002,BK134,BK139,HB⟩:=hcut
         cases kq with
         | zero=>exact absurd HA.out (by simp [spec_l2Get.j2])
         | succ kj17 =>
          have H:=HA.out
          clear HA
          simp only [spec_l2Get.j2] at H
          by_cases c23:x45_17=true
          ·subst c23
           have H1:(if 5≤((rdOf ByteArray.empty t135 x8_1).size:Int) then ((spec_AddrGet.f kj17 ((rdOf ByteArray.empty t135 x8_1).extract 5 (rdOf ByteArray.empty t135 x8_1).size)).bind fun bt141=>(if bt141.2.2=true then (spec_l2Get.l0 kj17 t135 (wrap64 ((wrap64 (x7_1+((rdOf ByteArray.empty t135 x8_1).size:Int)))+2)) (wrap64 (x8_1+1)) bt141.1 bt141.2.1 x140002_1) else (some (x140000_1,x140001_1,x140002_1,([]:List ByteArray),0)))) else (none))=some (r1,r2,r3,r4,r5):=by rw [if_pos rfl] at H;exact H
           clear H
           have H:=H1
           clear H1
           by_cases c24:5≤((rdOf ByteArray.empty t135 x8_1).size:Int)
           ·rw [if_pos c24] at H
            have c24b0:=eq_true c24
            have c24b1:decide (5≤((rdOf ByteArray.empty t135 x8_1).size:Int))=true:=decide_eq_true c24
            clear c24
            replace H:=Option.bind_eq_some_iff.mp H
            obtain ⟨⟨t141,t142,t143⟩,A250,H⟩:=H
            replace H:(if t143=true then (spec_l2Get.l0 kj17 t135 (wrap64 ((wrap64 (x7_1+((rdOf ByteArray.empty t135 x8_1).size:Int)))+2)) (wrap64 (x8_1+1)) t141 t142 x140002_1) else (some (x140000_1,x140001_1,x140002_1,([]:List ByteArray),0)))=some (r1,r2,r3,r4,r5):=H
            have A25:=Aside0.mk A250
            clear A250
            by_cases c26:t143=true
            ·subst c26
             have H1:(spec_l2Get.l0 kj17 t135 (wrap64 ((wrap64 (x7_1+((rdOf ByteArray.empty t135 x8_1).size:Int)))+2)) (wrap64 (x8_1+1)) t141 t142 x140002_1)=some (r1,r2,r3,r4,r5):=by rw [if_pos rfl] at H;exact H
             clear H
             have H:=H1
             clear H1
             have H':=Aside0.mk H
             clear H
             go_wp2_with (first|((with_reducible refine zq14 (f:=76) rfl ?_);refine zq20 (some 61) rfl rfl Tryz.func76 (by kernel_rfl) rfl #[.string ((rdOf ByteArray.empty t135 x8_1).extract 5 (rdOf ByteArray.empty t135 x8_1).size)] rfl (by (try simp only [List.map_toArray,List.map_cons,List.map_nil]);first|done|rfl|(simp only [List.length_drop,List.length_take];rfl)) ?_;(with_reducible refine (spec_AddrGet.calls kj17 ((rdOf ByteArray.empty t135 x8_1).extract 5 (rdOf ByteArray.empty t135 x8_1).size) t141 t142 true _ A25.out).mono ?_);rintro e w27 ⟨rfl,hb⟩;refine ⟨_,rfl,?_⟩;have n0_:=Aside0.mk (Kd.R_below (by (with_reducible repeat (first|apply Kd.R_alloc|apply Kd.R_drewN|apply Kd.R_drew));exact HO_4.out) hb);have n1_:=Aside0.mk (Kd.R_below (by (with_reducible repeat (first|apply Kd.R_alloc|apply Kd.R_drewN|apply Kd.R_drew));exact HO_140002.out) hb);have n2_:=Aside0.mk (zq13 (g:=gb134) (o:=.cells #[.string x135000_1,.string x135001_1,.slice none 0 0,.slice none 0 0] 28 (0,0)) (by (with_reducible repeat (first|refine zq4 ?_ _|refine zq7 ?_|refine zq3 ?_ _));exact BK134.out) hb);have n3_:=Aside0.mk (zq13 (g:=gb139) (o:=.cells #[.string x140000_1,.string x140001_1,u140002,.slice none 0 0] 28 (0,0)) (by (with_reducible repeat (first|refine zq4 ?_ _|refine zq7 ?_|refine zq3 ?_ _));exact BK139.out) hb);have n4_:=Aside0.mk (zq9 (by repeat (first|(with_reducible first|exact HB.out|apply zq1|apply zq0|apply zq2|refine zq5 ?_ GE134.out|refine zq5 ?_ GE139.out)|exact HB.out)) hb);clear HO_4;clear HO_140002;clear BK134;clear BK139;clear HB;have HO_4:=n0_;have HO_140002:=n1_;have BK134:=n2_;have BK139:=n3_;have HB:=n4_;clear n0_ n1_ n2_ n3_ n4_;(try clear hb);(try clear hb2);(try clear hk);(try clear hi))|((with_reducible refine zq21 (N:=10) rfl ?_);(try (refine gate_guard (by rfl) ?_;dsimp only));refine zq22 ?hg (N:=10) ?hd (cs:=#[.string bz0,.string bz0]) (t:=24) ?hr ?_;(case hd=>rfl);(case hg=>rfl);(case hr=>first|(go_simp;done)|(go_simp;rfl));intro gb144 hg w28 hbox hb;have n0_:=Aside0.mk (Kd.R_below (by (with_reducible repeat (first|apply Kd.R_alloc|apply Kd.R_drewN|apply Kd.R_drew));exact HO_4.out) hb);have n1_:=Aside0.mk (Kd.R_below (Kd.R_elderB (by (with_reducible repeat (first|apply Kd.R_alloc|apply Kd.R_drewN|apply Kd.R_drew));exact HO_140002.out) gb144 (Nat.le_of_eq hg.symm)) hb);have n2_:=Aside0.mk (zq13 (g:=gb134) (o:=.cells #[.string x135000_1,.string x135001_1,.slice none 0 0,.slice none 0 0] 28 (0,0)) (by (with_reducible repeat (first|refine zq4 ?_ _|refine zq7 ?_|refine zq3 ?_ _));exact BK134.out) hb);have n3_:=Aside0.mk (zq13 (g:=gb139) (o:=.cells #[.string x140000_1,.string x140001_1,u140002,.slice none 0 0] 28 (0,0)) (by (with_reducible repeat (first|refine zq4 ?_ _|refine zq7 ?_|refine zq3 ?_ _));exact BK139.out) hb);have n4_:=Aside0.mk (zq9 (by repeat (first|(with_reducible first|exact HB.out|apply zq1|apply zq0|apply zq2|refine zq5 ?_ GE134.out|refine zq5 ?_ GE139.out)|exact HB.out)) hb);have n5_:=Aside0.mk (hbox);have n6_:=Aside0.mk ((by rw [hg];exact (zq10 (by repeat (first|(with_reducible first|exact HB.out|apply zq1|apply zq0|apply zq2|refine zq5 ?_ GE134.out|refine zq5 ?_ GE139.out)|exact HB.out))):w.heap.size≤gb144));have n7_:=Aside0.mk ((by rw [hg];exact (zq10 (by repeat (first|(with_reducible first|exact HB.out|apply zq1|apply zq0|apply zq2|refine zq5 ?_ GE134.out|refine zq5 ?_ GE139.out)|exact HB.out))):w.heap.size≤gb144));have n8_:=Aside0.mk ((by rw [hg];exact Nat.ne_of_lt (blk_lt (g:=gb134) (o:=.cells #[.string x135000_1,.string x135001_1,.slice none 0 0,.slice none 0 0] 28 (0,0)) (by (with_reducible repeat (first|refine zq4 ?_ _|refine zq7 ?_|refine zq3 ?_ _));exact BK134.out)):gb134≠gb144));have n9_:=Aside0.mk ((by rw [hg];exact Nat.ne_of_gt (blk_lt (g:=gb134) (o:=.cells #[.string x135000_1,.string x135001_1,.slice none 0 0,.slice none 0 0] 28 (0,0)) (by (with_reducible repeat (first|refine zq4 ?_ _|refine zq7 ?_|refine zq3 ?_ _));exact BK134.out)):gb144≠gb134));have n10_:=Aside0.mk ((by rw [hg];exact Nat.ne_of_lt (blk_lt (g:=gb139) (o:=.cells #[.string x140000_1,.string x140001_1,u140002,.slice none 0 0] 28 (0,0)) (by (with_reducible repeat (first|refine zq4 ?_ _|refine zq7 ?_|refine zq3 ?_ _));exact BK139.out)):gb139≠gb144));have n11_:=Aside0.mk ((by rw [hg];exact Nat.ne_of_gt (blk_lt (g:=gb139) (o:=.cells #[.string x140000_1,.string x140001_1,u140002,.slice none 0 0] 28 (0,0)) (by (with_reducible repeat (first|refine zq4 ?_ _|refine zq7 ?_|refine zq3 ?_ _));exact BK139.out)):gb144≠gb139));clear HO_4;clear HO_140002;clear BK134;clear BK139;clear HB;have HO_4:=n0_;have HO_140002:=n1_;have BK134:=n2_;have BK139:=n3_;have HB:=n4_;have BK144:=n5_;have GW144:=n6_;have GE144:=n7_;have NB134_144:=n8_;have NB144_134:=n9_;have NB139_144:=n10_;have NB144_139:=n11_;clear n0_ n1_ n2_ n3_ n4_ n5_ n6_ n7_ n8_ n9_ n10_ n11_;clear hb hbox hg;have hnb29:=NB144_134.out;have hnc29:=NB134_144.out;have hnb30:=NB144_139.out;have hnc30:=NB139_144.out;have hcz31_0:w28.cell? ⟨gb144,0,none⟩=some (.string bz0):=(zq8 BK144.out 0).trans rfl;have hcz31_1:w28.cell? ⟨gb144,1,none⟩=some (.string bz0):=(zq8 BK144.out 1).trans rfl;have hfz31_0:=zq6 BK144.out 0;have hfz31_1:=zq6 BK144.out 1;have hnb32:=NB139_134.out;have hnc32:=NB134_139.out;have hcz33_0:w28.cell? ⟨gb139,0,none⟩=some (.string x140000_1):=(zq8 BK139.out 0).trans rfl;have hcz33_1:w28.cell? ⟨gb139,1,none⟩=some (.string x140001_1):=(zq8 BK139.out 1).trans rfl;have hcz33_2:w28.cell? ⟨gb139,2,none⟩=some (u140002):=(zq8 BK139.out 2).trans rfl;have hcz33_3:w28.cell? ⟨gb139,3,none⟩=some (.slice none 0 0):=(zq8 BK139.out 3).trans rfl;have hfz33_0:=zq6 BK139.out 0;have hfz33_1:=zq6 BK139.out 1;have hfz33_2:=zq6 BK139.out 2;have hfz33_3:=zq6 BK139.out 3))
             go_roundg kj17
             case measure=>have:=HK1.out;have:=HJ9.out;have:=HJ17.out;omega
             case rel=>exact ⟨((wrap64 ((wrap64 (x7_1+((rdOf ByteArray.empty t135 x8_1).size:Int)))+2))),(wrap64 (x8_1+1)),(x135000_1),(x135001_1),(t141),(t142),(x140002_1),(u140002),(by first|rfl|(simp;done)|(simp [*];done)),(by first|rfl|(simp;done)|(simp [*];done)),H',⟨by have:=HK1.out;have:=HJ9.out;have:=HJ17.out;omega⟩,⟨by (with_reducible repeat (first|apply Kd.R_alloc|apply Kd.R_drewN|apply Kd.R_drew));exact Kd.R_mono (Kd.R_far (p:=⟨gb139,1,none⟩) (Kd.R_far (p:=⟨gb139,0,none⟩) (Kd.R_far (p:=⟨gb144,1,none⟩) (Kd.R_far (p:=⟨gb144,0,none⟩) (Kd.R_types (Kd.R_types HO_4.out BK144.out (by decide)) BK139.out (by decide)) (fun _ hk=>hk.1.2) (.string t141)) (fun _ hk=>hk.1.2) (.string t142)) (fun _ hk=>hk.2) (.string t141)) (fun _ hk=>hk.2) (.string t142)) (fun _ hk=>trivial)⟩,⟨by (with_reducible repeat (first|apply Kd.R_alloc|apply Kd.R_drewN|apply Kd.R_drew));exact Kd.R_mono (Kd.R_far (p:=⟨gb139,1,none⟩) (Kd.R_far (p:=⟨gb139,0,none⟩) (Kd.R_far (p:=⟨gb144,1,none⟩) (Kd.R_far (p:=⟨gb144,0,none⟩) (Kd.R_types (Kd.R_mono HO_140002.out (fun k_ hk=>(⟨hk,hk.2⟩:_∧k_≠gb144))) BK139.out (by decide)) (fun _ hk=>hk.1.2) (.string t141)) (fun _ hk=>hk.1.2) (.string t142)) (fun _ hk=>hk.2) (.string t141)) (fun _ hk=>hk.2) (.string t142)) (fun _ hk=>trivial)⟩,⟨by (with_reducible repeat (first|refine zq4 ?_ _|refine zq7 ?_|refine zq3 ?_ _));refine zq23 ?_ NB134_139.out _;(with_reducible repeat (first|refine zq4 ?_ _|refine zq7 ?_|refine zq3 ?_ _));refine zq23 ?_ NB134_139.out _;(with_reducible repeat (first|refine zq4 ?_ _|refine zq7 ?_|refine zq3 ?_ _));refine zq23 ?_ NB134_144.out _;(with_reducible repeat (first|refine zq4 ?_ _|refine zq7 ?_|refine zq3 ?_ _));refine zq23 ?_ NB134_144.out _;(with_reducible repeat (first|refine zq4 ?_ _|refine zq7 ?_|refine zq3 ?_ _));exact BK134.out⟩,⟨by (with_reducible repeat (first|refine zq4 ?_ _|refine zq7 ?_|refine zq3 ?_ _));refine zq17 (cs:=#[.string t141,.string x140001_1,u140002,.slice none 0 0]) ?_ 1 _ rfl;(with_reducible repeat (first|refine zq4 ?_ _|refine zq7 ?_|refine zq3 ?_ _));refine zq17 (cs:=#[.string x140000_1,.string x140001_1,u140002,.slice none 0 0]) ?_ 0 _ rfl;(with_reducible repeat (first|refine zq4 ?_ _|refine zq7 ?_|refine zq3 ?_ _));refine zq23 ?_ NB139_144.out _;(with_reducible repeat (first|refine zq4 ?_ _|refine zq7 ?_|refine zq3 ?_ _));refine zq23 ?_ NB139_144.out _;(with_reducible repeat (first|refine zq4 ?_ _|refine zq7 ?_|refine zq3 ?_ _));exact BK139.out⟩,⟨by repeat (first|(with_reducible first|exact HB.out|apply zq1|apply zq0|apply zq2|refine zq5 ?_ GE134.out|refine zq5 ?_ GE139.out|refine zq5 ?_ GE144.out)|exact HB.out)⟩⟩
            ·replace c26:=Bool.eq_false_iff.mpr c26
             subst c26
             have H1:(some (x140000_1,x140001_1,x140002_1,([]:List ByteArray),0))=some (r1,r2,r3,r4,r5):=by rw [if_neg (show ¬ (false=true) by decide)] at H;exact H
             clear H
             have H:=H1
             clear H1
             simp only [Option.some.injEq,Prod.mk.injEq] at H
             obtain ⟨rfl,rfl,rfl,rfl,rfl⟩:=H
             go_wp2_with (first|((with_reducible refine zq14 (f:=76) rfl ?_);refine zq20 (some 61) rfl rfl Tryz.func76 (by kernel_rfl) rfl #[.string ((rdOf ByteArray.empty t135 x8_1).extract 5 (rdOf ByteArray.empty t135 x8_1).size)] rfl (by (try simp only [List.map_toArray,List.map_cons,List.map_nil]);first|done|rfl|(simp only [List.length_drop,List.length_take];rfl)) ?_;(with_reducible refine (spec_AddrGet.calls kj17 ((rdOf ByteArray.empty t135 x8_1).extract 5 (rdOf ByteArray.empty t135 x8_1).size) t141 t142 false _ A25.out).mono ?_);rintro e w34 ⟨rfl,hb⟩;refine ⟨_,rfl,?_⟩;have n0_:=Aside0.mk (Kd.R_below (by (with_reducible repeat (first|apply Kd.R_alloc|apply Kd.R_drewN|apply Kd.R_drew));exact HO_4.out) hb);have n1_:=Aside0.mk (Kd.R_below (by (with_reducible repeat (first|apply Kd.R_alloc|apply Kd.R_drewN|apply Kd.R_drew));exact HO_140002.out) hb);have n2_:=Aside0.mk (zq13 (g:=gb134) (o:=.cells #[.string x135000_1,.string x135001_1,.slice none 0 0,.slice none 0 0] 28 (0,0)) (by (with_reducible repeat (first|refine zq4 ?_ _|refine zq7 ?_|refine zq3 ?_ _));exact BK134.out) hb);have n3_:=Aside0.mk (zq13 (g:=gb139) (o:=.cells #[.string x140000_1,.string x140001_1,u140002,.slice none 0 0] 28 (0,0)) (by (with_reducible repeat (first|refine zq4 ?_ _|refine zq7 ?_|refine zq3 ?_ _));exact BK139.out) hb);have n4_:=Aside0.mk (zq9 (by repeat (first|(with_reducible first|exact HB.out|apply zq1|apply zq0|apply zq2|refine zq5 ?_ GE134.out|refine zq5 ?_ GE139.out)|exact HB.out)) hb);clear HO_4;clear HO_140002;clear BK134;clear BK139;clear HB;have HO_4:=n0_;have HO_140002:=n1_;have BK134:=n2_;have BK139:=n3_;have HB:=n4_;clear n0_ n1_ n2_ n3_ n4_;(try clear hb);(try clear hb2);(try clear hk);(try clear hi))|((with_reducible refine zq21 (N:=10) rfl ?_);(try (refine gate_guard (by rfl) ?_;dsimp only));refine zq22 ?hg (N:=10) ?hd (cs:=#[.string bz0,.string bz0]) (t:=24) ?hr ?_;(case hd=>rfl);(case hg=>rfl);(case hr=>first|(go_simp;done)|(go_simp;rfl));intro gb144 hg w35 hbox hb;have n0_:=Aside0.mk (Kd.R_below (by (with_reducible repeat (first|apply Kd.R_alloc|apply Kd.R_drewN|apply Kd.R_drew));exact HO_4.out) hb);have n1_:=Aside0.mk (Kd.R_below (Kd.R_elderB (by (with_reducible repeat (first|apply Kd.R_alloc|apply Kd.R_drewN|apply Kd.R_drew));exact HO_140002.out) gb144 (Nat.le_of_eq hg.symm)) hb);have n2_:=Aside0.mk (zq13 (g:=gb134) (o:=.cells #[.string x135000_1,.string x135001_1,.slice none 0 0,.slice none 0 0] 28 (0,0)) (by (with_reducible repeat (first|refine zq4 ?_ _|refine zq7 ?_|refine zq3 ?_ _));exact BK134.out) hb);have n3_:=Aside0.mk (zq13 (g:=gb139) (o:=.cells #[.string x140000_1,.string x140001_1,u140002,.slice none 0 0] 28 (0,0)) (by (with_reducible repeat (first|refine zq4 ?_ _|refine zq7 ?_|refine zq3 ?_ _));exact BK139.out) hb);have n4_:=Aside0.mk (zq9 (by repeat (first|(with_reducible first|exact HB.out|apply zq1|apply zq0|apply zq2|refine zq5 ?_ GE134.out|refine zq5 ?_ GE139.out)|exact HB.out)) hb);have n5_:=Aside0.mk (hbox);have n6_:=Aside0.mk ((by rw [hg];exact (zq10 (by repeat (first|(with_reducible first|exact HB.out|apply zq1|apply zq0|apply zq2|refine zq5 ?_ GE134.out|refine zq5 ?_ GE139.out)|exact HB.out))):w.heap.size≤gb144));have n7_:=Aside0.mk ((by rw [hg];exact (zq10 (by repeat (first|(with_reducible first|exact HB.out|apply zq1|apply zq0|apply zq2|refine zq5 ?_ GE134.out|refine zq5 ?_ GE139.out)|exact HB.out))):w.heap.size≤gb144));have n8_:=Aside0.mk ((by rw [hg];exact Nat.ne_of_lt (blk_lt (g:=gb134) (o:=.cells #[.string x135000_1,.string x135001_1,.slice none 0 0,.slice none 0 0] 28 (0,0)) (by (with_reducible repeat (first|refine zq4 ?_ _|refine zq7 ?_|refine zq3 ?_ _));exact BK134.out)):gb134≠gb144));have n9_:=Aside0.mk ((by rw [hg];exact Nat.ne_of_gt (blk_lt (g:=gb134) (o:=.cells #[.string x135000_1,.string x135001_1,.slice none 0 0,.slice none 0 0] 28 (0,0)) (by (with_reducible repeat (first|refine zq4 ?_ _|refine zq7 ?_|refine zq3 ?_ _));exact BK134.out)):gb144≠gb134));have n10_:=Aside0.mk ((by rw [hg];exact Nat.ne_of_lt (blk_lt (g:=gb139) (o:=.cells #[.string x140000_1,.string x140001_1,u140002,.slice none 0 0] 28 (0,0)) (by (with_reducible repeat (first|refine zq4 ?_ _|refine zq7 ?_|refine zq3 ?_ _));exact BK139.out)):gb139≠gb144));have n11_:=Aside0.mk ((by rw [hg];exact Nat.ne_of_gt (blk_lt (g:=gb139) (o:=.cells #[.string x140000_1,.string x140001_1,u140002,.slice none 0 0] 28 (0,0)) (by (with_reducible repeat (first|refine zq4 ?_ _|refine zq7 ?_|refine zq3 ?_ _));exact BK139.out)):gb144≠gb139));clear HO_4;clear HO_140002;clear BK134;clear BK139;clear HB;have HO_4:=n0_;have HO_140002:=n1_;have BK134:=n2_;have BK139:=n3_;have HB:=n4_;have BK144:=n5_;have GW144:=n6_;have GE144:=n7_;have NB134_144:=n8_;have NB144_134:=n9_;have NB139_144:=n10_;have NB144_139:=n11_;clear n0_ n1_ n2_ n3_ n4_ n5_ n6_ n7_ n8_ n9_ n10_ n11_;clear hb hbox hg;have hnb36:=NB144_134.out;have hnc36:=NB134_144.out;have hnb37:=NB144_139.out;have hnc37:=NB139_144.out;have hcz38_0:w35.cell? ⟨gb144,0,none⟩=some (.string bz0):=(zq8 BK144.out 0).trans rfl;have hcz38_1:w35.cell? ⟨gb144,1,none⟩=some (.string bz0):=(zq8 BK144.out 1).trans rfl;have hfz38_0:=zq6 BK144.out 0;have hfz38_1:=zq6 BK144.out 1;have hnb39:=NB139_134.out;have hnc39:=NB134_139.out;have hcz40_0:w35.cell? ⟨gb139,0,none⟩=some (.string x140000_1):=(zq8 BK139.out 0).trans rfl;have hcz40_1:w35.cell? ⟨gb139,1,none⟩=some (.string x140001_1):=(zq8 BK139.out 1).trans rfl;have hcz40_2:w35.cell? ⟨gb139,2,none⟩=some (u140002):=(zq8 BK139.out 2).trans rfl;have hcz40_3:w35.cell? ⟨gb139,3,none⟩=some (.slice none 0 0):=(zq8 BK139.out 3).trans rfl;have hfz40_0:=zq6 BK139.out 0;have hfz40_1:=zq6 BK139.out 1;have hfz40_2:=zq6 BK139.out 2;have hfz40_3:=zq6 BK139.out 3;have hcz41_0:w35.cell? ⟨gb134,0,none⟩=some (.string x135000_1):=(zq8 BK134.out 0).trans rfl;have hcz41_1:w35.cell? ⟨gb134,1,none⟩=some (.string x135001_1):=(zq8 BK134.out 1).trans rfl;have hcz41_2:w35.cell? ⟨gb134,2,none⟩=some (.slice none 0 0):=(zq8 BK134.out 2).trans rfl;have hcz41_3:w35.cell? ⟨gb134,3,none⟩=some (.slice none 0 0):=(zq8 BK134.out 3).trans rfl;have hfz41_0:=zq6 BK134.out 0;have hfz41_1:=zq6 BK134.out 1;have hfz41_2:=zq6 BK134.out 2;have hfz41_3:=zq6 BK134.out 3;obtain ⟨Ao42,co42,eo42⟩:=Kd.R_slice HO_140002.out;subst eo42))
             refine bodyPost_ret (results_ct rfl _ _ gb134 28 #[.string x140000_1,.string x140001_1,.slice Ao42 x140002_1.length co42,.slice none 0 0] (0,0) _ rfl (by (with_reducible repeat (first|refine zq4 ?_ _|refine zq7 ?_|refine zq3 ?_ _));refine zq17 (cs:=#[.string x140000_1,.string x140001_1,.slice Ao42 x140002_1.length co42,.slice none 0 0]) ?_ 3 _ rfl;(with_reducible repeat (first|refine zq4 ?_ _|refine zq7 ?_|refine zq3 ?_ _));refine zq17 (cs:=#[.string x140000_1,.string x140001_1,.slice none 0 0,.slice none 0 0]) ?_ 2 _ rfl;(with_reducible repeat (first|refine zq4 ?_ _|refine zq7 ?_|refine zq3 ?_ _));refine zq17 (cs:=#[.string x140000_1,.string x135001_1,.slice none 0 0,.slice none 0 0]) ?_ 1 _ rfl;(with_reducible repeat (first|refine zq4 ?_ _|refine zq7 ?_|refine zq3 ?_ _));refine zq17 (cs:=#[.string x135000_1,.string x135001_1,.slice none 0 0,.slice none 0 0]) ?_ 0 _ rfl;(with_reducible repeat (first|refine zq4 ?_ _|refine zq7 ?_|refine zq3 ?_ _));refine zq23 ?_ NB134_144.out _;(with_reducible repeat (first|refine zq4 ?_ _|refine zq7 ?_|refine zq3 ?_ _));refine zq23 ?_ NB134_144.out _;(with_reducible repeat (first|refine zq4 ?_ _|refine zq7 ?_|refine zq3 ?_ _));exact BK134.out) Tryz.underlying28 rfl (by kernel_rfl)) rfl ?_
             exact ⟨_,_,by first|rfl|(simp [zq11,zq12]<;>rfl)|(simp [*,zq11,zq12]<;>rfl),by (with_reducible repeat (first|apply Kd.R_alloc|apply Kd.R_drewN|apply Kd.R_drew));exact Kd.R_mono (Kd.R_far (p:=⟨gb134,3,none⟩) (Kd.R_far (p:=⟨gb134,2,none⟩) (Kd.R_far (p:=⟨gb134,1,none⟩) (Kd.R_far (p:=⟨gb134,0,none⟩) (Kd.R_far (p:=⟨gb144,1,none⟩) (Kd.R_far (p:=⟨gb144,0,none⟩) (Kd.R_types (Kd.R_mono HO_140002.out (fun k_ hk=>(⟨hk,hk.2⟩:_∧k_≠gb144))) BK134.out (by decide)) (fun _ hk=>hk.1.2) (.string t141)) (fun _ hk=>hk.1.2) (.string t142)) (fun _ hk=>hk.2) (.string x140000_1)) (fun _ hk=>hk.2) (.string x140001_1)) (fun _ hk=>hk.2) (.slice Ao42 x140002_1.length co42)) (fun _ hk=>hk.2) (.slice none 0 0)) (fun _ hk=>trivial),by first|exact Kd.R_nil _ _ _ _ _|exact Kd.N_nil _ _ _ _ _|exact Kd.V_nil _ _ _ _ _|exact Kd.Q_nil _ _ _ _ _|exact Kd.S_nil _ _ _ _ _,by repeat (first|(with_reducible first|exact HB.out|apply zq1|apply zq0|apply zq2|refine zq5 ?_ GE134.out|refine zq5 ?_ GE139.out|refine zq5 ?_ GE144.out)|exact HB.out)⟩
           ·rw [if_neg c24] at H
            exact absurd H (by simp)
          ·replace c23:=Bool.eq_false_iff.mpr c23
           subst c23
           have H1:(if x8_1 > 0 then (if ((rdOf ByteArray.empty t135 x8_1).size:Int) > 3 then (if 0≤3 then (if 3≤((rdOf ByteArray.empty t135 x8_1).size:Int) then (spec_l2Get.j3 kj17 t135 (wrap64 ((wrap64 (x7_1+((rdOf ByteArray.empty t135 x8_1).size:Int)))+2)) x8_1 (rdOf ByteArray.empty t135 x8_1) (((rdOf ByteArray.empty t135 x8_1).extract 0 3).toList==([116,111,32]:List UInt8)) x140000_1 x140001_1 x140002_1) else (none)) else (none)) else (spec_l2Get.j3 kj17 t135 (wrap64 ((wrap64 (x7_1+((rdOf ByteArray.empty t135 x8_1).size:Int)))+2)) x8_1 (rdOf ByteArray.empty t135 x8_1) false x140000_1 x140001_1 x140002_1)) else (spec_l2Get.j3 kj17 t135 (wrap64 ((wrap64 (x7_1+((rdOf ByteArray.empty t135 x8_1).size:Int)))+2)) x8_1 (rdOf ByteArray.empty t135 x8_1) false x140000_1 x140001_1 x140002_1))=some (r1,r2,r3,r4,r5):=by rw [if_neg (show ¬ (false=true) by decide)] at H;exact H
           clear H
           have H:=H1
           clear H1
           have HC43:=Aside0.mk H
           clear H
           go_upto_region 17 with (fail)
           go_cut [69] (fun v69 wc=>∃ (kq:Nat) (x69_42:Bool),v69=.bool x69_42∧Aside0 (spec_l2Get.j3 kq t135 (wrap64 ((wrap64 (x7_1+((rdOf ByteArray.empty t135 x8_1).size:Int)))+2)) x8_1 (rdOf ByteArray.empty t135 x8_1) x69_42 x140000_1 x140001_1 x140002_1=some (r1,r2,r3,r4,r5))∧Aside0 (kq≤kj17)∧Aside0 (Kd.R Kd.string 9 wc w.heap.size (fun _=>True) (.slice (some ad140) t135.length co11) t135)∧Aside0 (Kd.R k24 24 wc w.heap.size (fun _=>True) u140002 x140002_1)∧Aside0 (wc.heap[gb134]?=some (.cells #[.string x135000_1,.string x135001_1,(.slice none 0 0),(.slice none 0 0)] 28 (0,0)))∧Aside0 (wc.heap[gb139]?=some (.cells #[.string x140000_1,.string x140001_1,u140002,(.slice none 0 0)] 28 (0,0)))∧Aside0 (Below w.heap.size w wc))
           case first =>
            have H:=HC43.out
            clear HC43
            by_cases c44:x8_1 > 0
            ·rw [if_pos c44] at H
             have c44b0:decide (0 < x8_1)=true:=decide_eq_true c44
             clear c44
             (first|rw [c44b0]|(simp only [i64_w,i32_w];rw [c44b0])|skip)
             by_cases c45:((rdOf ByteArray.empty t135 x8_1).size:Int) > 3
             ·rw [if_pos c45] at H
              have c45b0:decide (3 < ((rdOf ByteArray.empty t135 x8_1).size:Int))=true:=decide_eq_true c45
              have c45b1:decide (3 < (rdOf ByteArray.empty t135 x8_1).size)=true:=decide_eq_true (by omega)
              clear c45
              by_cases c46:0≤3
              ·rw [if_pos c46] at H
               have c46b0:=eq_true c46
               have c46b1:decide (0≤3)=true:=decide_eq_true c46
               clear c46
               by_cases c47:3≤((rdOf ByteArray.empty t135 x8_1).size:Int)
               ·rw [if_pos c47] at H
                have c47b0:=eq_true c47
                have c47b1:decide (3≤((rdOf ByteArray.empty t135 x8_1).size:Int))=true:=decide_eq_true c47
                clear c47
                have H':=Aside0.mk H
                clear H
                go_wp2
                go_meet
                case rel=>exact ⟨_,((((rdOf ByteArray.empty t135 x8_1).extract 0 3).toList==([116,111,32]:List UInt8))),(by first|rfl|(simp;done)|(simp [*];done)),H',⟨by have:=HK1.out;have:=HJ9.out;have:=HJ17.out;first|omega|exact Nat.le_refl _⟩,⟨by (with_reducible repeat (first|apply Kd.R_alloc|apply Kd.R_drewN|apply Kd.R_drew));exact HO_4.out⟩,⟨by (with_reducible repeat (first|apply Kd.R_alloc|apply Kd.R_drewN|apply Kd.R_drew));exact HO_140002.out⟩,⟨by (with_reducible repeat (first|refine zq4 ?_ _|refine zq7 ?_|refine zq3 ?_ _));exact BK134.out⟩,⟨by (with_reducible repeat (first|refine zq4 ?_ _|refine zq7 ?_|refine zq3 ?_ _));exact BK139.out⟩,⟨by repeat (first|(with_reducible first|exact HB.out|apply zq1|apply zq0|apply zq2|refine zq5 ?_ GE134.out|refine zq5 ?_ GE139.out)|exact HB.out)⟩⟩
               ·rw [if_neg c47] at H
                exact absurd H (by simp)
              ·rw [if_neg c46] at H
               exact absurd H (by simp)
             ·rw [if_neg c45] at H
              have c45b0:decide (3 < ((rdOf ByteArray.empty t135 x8_1).size:Int))=false:=decide_eq_false c45
              have c45b1:decide (3 < (rdOf ByteArray.empty t135 x8_1).size)=false:=decide_eq_false (by omega)
              clear c45
              have H':=Aside0.mk H
              clear H
              go_wp2
              go_meet
              case rel=>exact ⟨_,(false),(by first|rfl|(simp;done)|(simp [*];done)),H',⟨by have:=HK1.out;have:=HJ9.out;have:=HJ17.out;first|omega|exact Nat.le_refl _⟩,⟨by (with_reducible repeat (first|apply Kd.R_alloc|apply Kd.R_drewN|apply Kd.R_drew));exact HO_4.out⟩,⟨by (with_reducible repeat (first|apply Kd.R_alloc|apply Kd.R_drewN|apply Kd.R_drew));exact HO_140002.out⟩,⟨by (with_reducible repeat (first|refine zq4 ?_ _|refine zq7 ?_|refine zq3 ?_ _));exact BK134.out⟩,⟨by (with_reducible repeat (first|refine zq4 ?_ _|refine zq7 ?_|refine zq3 ?_ _));exact BK139.out⟩,⟨by repeat (first|(with_reducible first|exact HB.out|apply zq1|apply zq0|apply zq2|refine zq5 ?_ GE134.out|refine zq5 ?_ GE139.out)|exact HB.out)⟩⟩
            ·rw [if_neg c44] at H
             have c44b0:decide (0 < x8_1)=false:=decide_eq_false c44
             clear c44
             (first|rw [c44b0]|(simp only [i64_w,i32_w];rw [c44b0])|skip)
             have H':=Aside0.mk H
             clear H
             go_wp2
             go_meet
             case rel=>exact ⟨_,(false),(by first|rfl|(simp;done)|(simp [*];done)),H',⟨by have:=HK1.out;have:=HJ9.out;have:=HJ17.out;first|omega|exact Nat.le_refl _⟩,⟨by (with_reducible repeat (first|apply Kd.R_alloc|apply Kd.R_drewN|apply Kd.R_drew));exact HO_4.out⟩,⟨by (with_reducible repeat (first|apply Kd.R_alloc|apply Kd.R_drewN|apply Kd.R_drew));exact HO_140002.out⟩,⟨by (with_reducible repeat (first|refine zq4 ?_ _|refine zq7 ?_|refine zq3 ?_ _));exact BK134.out⟩,⟨by (with_reducible repeat (first|refine zq4 ?_ _|refine zq7 ?_|refine zq3 ?_ _));exact BK139.out⟩,⟨by repeat (first|(with_reducible first|exact HB.out|apply zq1|apply zq0|apply zq2|refine zq5 ?_ GE134.out|refine zq5 ?_ GE139.out)|exact HB.out)⟩⟩
           case rest =>
            clear HC43
            try clear c1
            try clear p1
            try clear q1
            try clear hx1
            try clear c2
            try clear p2
            try clear c3
            try clear c4
            try clear c6
            try clear p6
            try clear c7
            try clear c8
            try clear c8b0
            try clear c9
            try clear c9b0
            try clear c12
            try clear c12b0
            try clear c12b1
            try clear c13
            try clear c14
            try clear p14
            try clear q14
            try clear hx14
            try clear c19
            try clear c19b0
            try clear c19b1
            try clear c20
            try clear c20b0
            try clear c20b1
            try clear c21
            try clear c21b0
            try clear c21b1
            try clear c22
            try clear c22b0
            try clear c22b1
            try clear c23
            try clear c24
            try clear c24b0
            try clear c24b1
            try clear c26
            try clear c29
            try clear c30
            try clear c32
            try clear c36
            try clear c37
            try clear c39
            try clear c44
            try clear c44b0
            try clear c45
            try clear c45b0
            try clear c45b1
            try clear c46
            try clear c46b0
            try clear c46b1
            try clear c47
            try clear c47b0
            try clear c47b1
            try clear hcz15_0
            try clear hcz15_1
            try clear hcz15_2
            try clear hcz15_3
            try clear hcz16_0
            try clear hcz16_1
            try clear hcz16_2
            try clear hcz16_3
            try clear hcz31_0
            try clear hcz31_1
            try clear hcz33_0
            try clear hcz33_1
            try clear hcz33_2
            try clear hcz33_3
            try clear hcz38_0
            try clear hcz38_1
            try clear hcz40_0
            try clear hcz40_1
            try clear hcz40_2
            try clear hcz40_3
            try clear hcz41_0
            try clear hcz41_1
            try clear hcz41_2
            try clear hcz41_3
            try clear hcz7_0
            try clear hcz7_1
            try clear hcz7_2
            try clear hcz7_3
            try clear hfz15_0
            try clear hfz15_1
            try clear hfz15_2
            try clear hfz15_3
            try clear hfz16_0
            try clear hfz16_1
            try clear hfz16_2
            try clear hfz16_3
            try clear hfz31_0
            try clear hfz31_1
            try clear hfz33_0
            try clear hfz33_1
            try clear hfz33_2
            try clear hfz33_3
            try clear hfz38_0
            try clear hfz38_1
            try clear hfz40_0
            try clear hfz40_1
            try clear hfz40_2
            try clear hfz40_3
            try clear hfz41_0
            try clear hfz41_1
            try clear hfz41_2
            try clear hfz41_3
            try clear hfz7_0
            try clear hfz7_1
            try clear hfz7_2
            try clear hfz7_3
            try clear hx140_0
            try clear p1
            try clear p14
            try clear p140
            try clear p2
            try clear p6
            try clear q1
            try clear q14
            try clear q140
            obtain ⟨kq,x69_42,rfl,HA,HJ42,HO_4,HO_140002,BK134,BK139,HB⟩:=hcut
            cases kq with
            | zero=>exact absurd HA.out (by simp [spec_l2Get.j3])
            | succ kj42 =>
             have H:=HA.out
             clear HA
             simp only [spec_l2Get.j3] at H
             by_cases c48:x69_42=true
             ·subst c48
              have H1:(if 3≤((rdOf ByteArray.empty t135 x8_1).size:Int) then ((spec_AddrGet.f kj42 ((rdOf ByteArray.empty t135 x8_1).extract 3 (rdOf ByteArray.empty t135 x8_1).size)).bind fun bt145=>(if bt145.2.2=true then (if x140002_1.length < 4398046511104 then (spec_l2Get.l0 kj42 t135 (wrap64 ((wrap64 (x7_1+((rdOf ByteArray.empty t135 x8_1).size:Int)))+2)) (wrap64 (x8_1+1)) x140000_1 x140001_1 (x140002_1++[(⟨bt145.1,bt145.2.1⟩:S24)])) else (none)) else (some (x140000_1,x140001_1,x140002_1,([]:List ByteArray),0)))) else (none))=some (r1,r2,r3,r4,r5):=by rw [if_pos rfl] at H;exact H
              clear H
              have H:=H1
              clear H1
              by_cases c49:3≤((rdOf ByteArray.empty t135 x8_1).size:Int)
              ·rw [if_pos c49] at H
               have c49b0:=eq_true c49
               have c49b1:decide (3≤((rdOf ByteArray.empty t135 x8_1).size:Int))=true:=decide_eq_true c49
               clear c49
               replace H:=Option.bind_eq_some_iff.mp H
               obtain ⟨⟨t145,t146,t147⟩,A500,H⟩:=H
               replace H:(if t147=true then (if x140002_1.length < 4398046511104 then (spec_l2Get.l0 kj42 t135 (wrap64 ((wrap64 (x7_1+((rdOf ByteArray.empty t135 x8_1).size:Int)))+2)) (wrap64 (x8_1+1)) x140000_1 x140001_1 (x140002_1++[(⟨t145,t146⟩:S24)])) else (none)) else (some (x140000_1,x140001_1,x140002_1,([]:List ByteArray),0)))=some (r1,r2,r3,r4,r5):=H
               have A50:=Aside0.mk A500
               clear A500
               by_cases c51:t147=true
               ·subst c51
                have H1:(if x140002_1.length < 4398046511104 then (spec_l2Get.l0 kj42 t135 (wrap64 ((wrap64 (x7_1+((rdOf ByteArray.empty t135 x8_1).size:Int)))+2)) (wrap64 (x8_1+1)) x140000_1 x140001_1 (x140002_1++[(⟨t145,t146⟩:S24)])) else (none))=some (r1,r2,r3,r4,r5):=by rw [if_pos rfl] at H;exact H
                clear H
                have H:=H1
                clear H1
                by_cases c52:x140002_1.length < 4398046511104
                ·rw [if_pos c52] at H
                 have LMc52:=Aside0.mk c52
                 clear c52
                 obtain ⟨y149,hy149⟩:∃ y_:List (S24),y_=(x140002_1++[(⟨t145,t146⟩:S24)]):=⟨_,rfl⟩
                 replace H:(spec_l2Get.l0 kj42 t135 (wrap64 ((wrap64 (x7_1+((rdOf ByteArray.empty t135 x8_1).size:Int)))+2)) (wrap64 (x8_1+1)) x140000_1 x140001_1 y149)=some (r1,r2,r3,r4,r5):=by first|(rw [hy149];with_reducible exact H)|(have H2_:=(Option.bind_some _ _).symm.trans H;rw [hy149];with_reducible exact H2_)|(have H2_:=(Option.bind_some _ _).symm.trans H;with_reducible exact H2_)|with_reducible exact H|(rw [hy149];exact H)|exact H
                 have Ny149:=Aside0.mk hy149
                 clear hy149
                 have H':=Aside0.mk H
                 clear H
                 go_wp2_with (first|((with_reducible refine zq14 (f:=76) rfl ?_);refine zq20 (some 85) rfl rfl Tryz.func76 (by kernel_rfl) rfl #[.string ((rdOf ByteArray.empty t135 x8_1).extract 3 (rdOf ByteArray.empty t135 x8_1).size)] rfl (by (try simp only [List.map_toArray,List.map_cons,List.map_nil]);first|done|rfl|(simp only [List.length_drop,List.length_take];rfl)) ?_;(with_reducible refine (spec_AddrGet.calls kj42 ((rdOf ByteArray.empty t135 x8_1).extract 3 (rdOf ByteArray.empty t135 x8_1).size) t145 t146 true _ A50.out).mono ?_);rintro e w53 ⟨rfl,hb⟩;refine ⟨_,rfl,?_⟩;have n0_:=Aside0.mk (Kd.R_below (by (with_reducible repeat (first|apply Kd.R_alloc|apply Kd.R_drewN|apply Kd.R_drew));exact HO_4.out) hb);have n1_:=Aside0.mk (Kd.R_below (by (with_reducible repeat (first|apply Kd.R_alloc|apply Kd.R_drewN|apply Kd.R_drew));exact HO_140002.out) hb);have n2_:=Aside0.mk (zq13 (g:=gb134) (o:=.cells #[.string x135000_1,.string x135001_1,.slice none 0 0,.slice none 0 0] 28 (0,0)) (by (with_reducible repeat (first|refine zq4 ?_ _|refine zq7 ?_|refine zq3 ?_ _));exact BK134.out) hb);have n3_:=Aside0.mk (zq13 (g:=gb139) (o:=.cells #[.string x140000_1,.string x140001_1,u140002,.slice none 0 0] 28 (0,0)) (by (with_reducible repeat (first|refine zq4 ?_ _|refine zq7 ?_|refine zq3 ?_ _));exact BK139.out) hb);have n4_:=Aside0.mk (zq9 (by repeat (first|(with_reducible first|exact HB.out|apply zq1|apply zq0|apply zq2|refine zq5 ?_ GE134.out|refine zq5 ?_ GE139.out)|exact HB.out)) hb);clear HO_4;clear HO_140002;clear BK134;clear BK139;clear HB;have HO_4:=n0_;have HO_140002:=n1_;have BK134:=n2_;have BK139:=n3_;have HB:=n4_;clear n0_ n1_ n2_ n3_ n4_;(try clear hb);(try clear hb2);(try clear hk);(try clear hi))|((with_reducible refine zq21 (N:=12) rfl ?_);(try (refine gate_guard (by rfl) ?_;dsimp only));refine zq22 ?hg (N:=12) ?hd (cs:=#[.string bz0,.string bz0]) (t:=24) ?hr ?_;(case hd=>rfl);(case hg=>rfl);(case hr=>first|(go_simp;done)|(go_simp;rfl));intro gb148 hg w54 hbox hb;have n0_:=Aside0.mk (Kd.R_below (by (with_reducible repeat (first|apply Kd.R_alloc|apply Kd.R_drewN|apply Kd.R_drew));exact HO_4.out) hb);have n1_:=Aside0.mk (Kd.R_below (Kd.R_elderB (by (with_reducible repeat (first|apply Kd.R_alloc|apply Kd.R_drewN|apply Kd.R_drew));exact HO_140002.out) gb148 (Nat.le_of_eq hg.symm)) hb);have n2_:=Aside0.mk (zq13 (g:=gb134) (o:=.cells #[.string x135000_1,.string x135001_1,.slice none 0 0,.slice none 0 0] 28 (0,0)) (by (with_reducible repeat (first|refine zq4 ?_ _|refine zq7 ?_|refine zq3 ?_ _));exact BK134.out) hb);have n3_:=Aside0.mk (zq13 (g:=gb139) (o:=.cells #[.string x140000_1,.string x140001_1,u140002,.slice none 0 0] 28 (0,0)) (by (with_reducible repeat (first|refine zq4 ?_ _|refine zq7 ?_|refine zq3 ?_ _));exact BK139.out) hb);have n4_:=Aside0.mk (zq9 (by repeat (first|(with_reducible first|exact HB.out|apply zq1|apply zq0|apply zq2|refine zq5 ?_ GE134.out|refine zq5 ?_ GE139.out)|exact HB.out)) hb);have n5_:=Aside0.mk (hbox);have n6_:=Aside0.mk ((by rw [hg];exact (zq10 (by repeat (first|(with_reducible first|exact HB.out|apply zq1|apply zq0|apply zq2|refine zq5 ?_ GE134.out|refine zq5 ?_ GE139.out)|exact HB.out))):w.heap.size≤gb148));have n7_:=Aside0.mk ((by rw [hg];exact (zq10 (by repeat (first|(with_reducible first|exact HB.out|apply zq1|apply zq0|apply zq2|refine zq5 ?_ GE134.out|refine zq5 ?_ GE139.out)|exact HB.out))):w.heap.size≤gb148));have n8_:=Aside0.mk ((by rw [hg];exact Nat.ne_of_lt (blk_lt (g:=gb134) (o:=.cells #[.string x135000_1,.string x135001_1,.slice none 0 0,.slice none 0 0] 28 (0,0)) (by (with_reducible repeat (first|refine zq4 ?_ _|refine zq7 ?_|refine zq3 ?_ _));exact BK134.out)):gb134≠gb148));have n9_:=Aside0.mk ((by rw [hg];exact Nat.ne_of_gt (blk_lt (g:=gb134) (o:=.cells #[.string x135000_1,.string x135001_1,.slice none 0 0,.slice none 0 0] 28 (0,0)) (by (with_reducible repeat (first|refine zq4 ?_ _|refine zq7 ?_|refine zq3 ?_ _));exact BK134.out)):gb148≠gb134));have n10_:=Aside0.mk ((by rw [hg];exact Nat.ne_of_lt (blk_lt (g:=gb139) (o:=.cells #[.string x140000_1,.string x140001_1,u140002,.slice none 0 0] 28 (0,0)) (by (with_reducible repeat (first|refine zq4 ?_ _|refine zq7 ?_|refine zq3 ?_ _));exact BK139.out)):gb139≠gb148));have n11_:=Aside0.mk ((by rw [hg];exact Nat.ne_of_gt (blk_lt (g:=gb139) (o:=.cells #[.string x140000_1,.string x140001_1,u140002,.slice none 0 0] 28 (0,0)) (by (with_reducible repeat (first|refine zq4 ?_ _|refine zq7 ?_|refine zq3 ?_ _));exact BK139.out)):gb148≠gb139));clear HO_4;clear HO_140002;clear BK134;clear BK139;clear HB;have HO_4:=n0_;have HO_140002:=n1_;have BK134:=n2_;have BK139:=n3_;have HB:=n4_;have BK148:=n5_;have GW148:=n6_;have GE148:=n7_;have NB134_148:=n8_;have NB148_134:=n9_;have NB139_148:=n10_;have NB148_139:=n11_;clear n0_ n1_ n2_ n3_ n4_ n5_ n6_ n7_ n8_ n9_ n10_ n11_;clear hb hbox hg;have hnb55:=NB148_134.out;have hnc55:=NB134_148.out;have hnb56:=NB148_139.out;have hnc56:=NB139_148.out;have hcz57_0:w54.cell? ⟨gb148,0,none⟩=some (.string bz0):=(zq8 BK148.out 0).trans rfl;have hcz57_1:w54.cell? ⟨gb148,1,none⟩=some (.string bz0):=(zq8 BK148.out 1).trans rfl;have hfz57_0:=zq6 BK148.out 0;have hfz57_1:=zq6 BK148.out 1;have hnb58:=NB139_134.out;have hnc58:=NB134_139.out;have hcz59_0:w54.cell? ⟨gb139,0,none⟩=some (.string x140000_1):=(zq8 BK139.out 0).trans rfl;have hcz59_1:w54.cell? ⟨gb139,1,none⟩=some (.string x140001_1):=(zq8 BK139.out 1).trans rfl;have hcz59_2:w54.cell? ⟨gb139,2,none⟩=some (u140002):=(zq8 BK139.out 2).trans rfl;have hcz59_3:w54.cell? ⟨gb139,3,none⟩=some (.slice none 0 0):=(zq8 BK139.out 3).trans rfl;have hfz59_0:=zq6 BK139.out 0;have hfz59_1:=zq6 BK139.out 1;have hfz59_2:=zq6 BK139.out 2;have hfz59_3:=zq6 BK139.out 3)|((with_reducible refine gate_builtin (b:=.append) (xs:=#[.tmp 92,.tmp 94]) rfl ?_);(try (refine gate_guard (by rfl) ?_;dsimp only));at_builtin;refine Kd.R_append k24 (w0:=w) w.heap.size rfl (.tmp 92) (.tmp 94) 25 24 (.agg #[(.string ⟨#[]⟩),(.string ⟨#[]⟩)]) 32 rfl Tryz.underlying25 info24 rfl (by decide) (by omega) u140002 x140002_1 (⟨t145,t146⟩:S24) [.string t145,.string t146] (fun k_=>k_≠gb148) (fun _=>False) rfl (by first|(go_simp;done)|(go_simp;rfl)) ?aP (fun _ hk=>hk.elim) ?aF ?aO ?aB ?aS ?aL ?_;(case aP=>exact k24_mkM _ _ _ (⟨t145,t146⟩:S24));(case aB=>exact (by repeat (first|(with_reducible first|exact HB.out|apply zq1|apply zq0|apply zq2|refine zq5 ?_ GE134.out|refine zq5 ?_ GE139.out|refine zq5 ?_ GE148.out)|exact HB.out)));(case aF=>exact (fun k_ hk=>Kd.freshB (g:=gb148) (o:=.cells #[.string t145,.string t146] 24 (0,0)) (by (with_reducible repeat (first|refine zq4 ?_ _|refine zq7 ?_|refine zq3 ?_ _));refine zq17 (cs:=#[.string t145,.string bz0]) ?_ 1 _ rfl;(with_reducible repeat (first|refine zq4 ?_ _|refine zq7 ?_|refine zq3 ?_ _));refine zq17 (cs:=#[.string bz0,.string bz0]) ?_ 0 _ rfl;(with_reducible repeat (first|refine zq4 ?_ _|refine zq7 ?_|refine zq3 ?_ _));exact BK148.out) k_ hk));(case aO=>exact (by (with_reducible repeat (first|apply Kd.R_alloc|apply Kd.R_drewN|apply Kd.R_drew));exact Kd.R_mono (Kd.R_far (p:=⟨gb148,1,none⟩) (Kd.R_far (p:=⟨gb148,0,none⟩) (Kd.R_mono HO_140002.out (fun k_ hk=>(⟨hk,hk.2⟩:_∧k_≠gb148))) (fun _ hk=>hk.2) (.string t145)) (fun _ hk=>hk.2) (.string t146)) (fun _ hk=>hk.1.2)));(case aS=>exact (zq10 (by repeat (first|(with_reducible first|exact HB.out|apply zq1|apply zq0|apply zq2|refine zq5 ?_ GE134.out|refine zq5 ?_ GE139.out|refine zq5 ?_ GE148.out)|exact HB.out))));(case aL=>have:=LMc52.out;omega);intro v150 w60 ho hb hg hat;rw [← Ny149.out] at ho;have n0_:=Aside0.mk (Kd.R_over' (by (with_reducible repeat (first|apply Kd.R_alloc|apply Kd.R_drewN|apply Kd.R_drew));exact (Kd.R_mono (Kd.R_far (p:=⟨gb148,1,none⟩) (Kd.R_far (p:=⟨gb148,0,none⟩) (Kd.R_types HO_4.out BK148.out (by decide)) (fun _ hk=>hk.2) (.string t145)) (fun _ hk=>hk.2) (.string t146)) (fun _ h_=>h_.1))) (Kd.R_typed (by (with_reducible repeat (first|apply Kd.R_alloc|apply Kd.R_drewN|apply Kd.R_drew));exact (Kd.R_mono (Kd.R_far (p:=⟨gb148,1,none⟩) (Kd.R_far (p:=⟨gb148,0,none⟩) (Kd.R_mono HO_140002.out (fun k_ hk=>(⟨hk,hk.2⟩:_∧k_≠gb148))) (fun _ hk=>hk.2) (.string t145)) (fun _ hk=>hk.2) (.string t146)) (fun _ h_=>h_.1)))) (by decide) hg);have n1_:=Aside0.mk (blk_grown (g:=gb134) (o:=.cells #[.string x135000_1,.string x135001_1,.slice none 0 0,.slice none 0 0] 28 (0,0)) (by (with_reducible repeat (first|refine zq4 ?_ _|refine zq7 ?_|refine zq3 ?_ _));refine zq23 ?_ NB134_148.out _;(with_reducible repeat (first|refine zq4 ?_ _|refine zq7 ?_|refine zq3 ?_ _));refine zq23 ?_ NB134_148.out _;(with_reducible repeat (first|refine zq4 ?_ _|refine zq7 ?_|refine zq3 ?_ _));exact BK134.out) hg (Kd.R_ne HO_140002.out BK134.out (by decide)));have n2_:=Aside0.mk (blk_grown (g:=gb139) (o:=.cells #[.string x140000_1,.string x140001_1,u140002,.slice none 0 0] 28 (0,0)) (by (with_reducible repeat (first|refine zq4 ?_ _|refine zq7 ?_|refine zq3 ?_ _));refine zq23 ?_ NB139_148.out _;(with_reducible repeat (first|refine zq4 ?_ _|refine zq7 ?_|refine zq3 ?_ _));refine zq23 ?_ NB139_148.out _;(with_reducible repeat (first|refine zq4 ?_ _|refine zq7 ?_|refine zq3 ?_ _));exact BK139.out) hg (Kd.R_ne HO_140002.out BK139.out (by decide)));have n3_:=Aside0.mk (blk_grown (g:=gb148) (o:=.cells #[.string t145,.string t146] 24 (0,0)) (by (with_reducible repeat (first|refine zq4 ?_ _|refine zq7 ?_|refine zq3 ?_ _));refine zq17 (cs:=#[.string t145,.string bz0]) ?_ 1 _ rfl;(with_reducible repeat (first|refine zq4 ?_ _|refine zq7 ?_|refine zq3 ?_ _));refine zq17 (cs:=#[.string bz0,.string bz0]) ?_ 0 _ rfl;(with_reducible repeat (first|refine zq4 ?_ _|refine zq7 ?_|refine zq3 ?_ _));exact BK148.out) hg (Kd.R_away HO_140002.out (fun _ hk=>hk.2)));have n4_:=Aside0.mk (hb);have n5_:=Aside0.mk (ho);clear HO_4;clear BK134;clear BK139;clear BK148;clear HB;clear HO_140002;have HO_4:=n0_;have BK134:=n1_;have BK139:=n2_;have BK148:=n3_;have HB:=n4_;have HO151:=n5_;clear n0_ n1_ n2_ n3_ n4_ n5_;clear ho hb hg hat;obtain ⟨Ao61,co61,eo61⟩:=Kd.R_slice HO151.out;subst eo61;have hcz62_0:w60.cell? ⟨gb139,0,none⟩=some (.string x140000_1):=(zq8 BK139.out 0).trans rfl;have hcz62_1:w60.cell? ⟨gb139,1,none⟩=some (.string x140001_1):=(zq8 BK139.out 1).trans rfl;have hcz62_2:w60.cell? ⟨gb139,2,none⟩=some (u140002):=(zq8 BK139.out 2).trans rfl;have hcz62_3:w60.cell? ⟨gb139,3,none⟩=some (.slice none 0 0):=(zq8 BK139.out 3).trans rfl;have hfz62_0:=zq6 BK139.out 0;have hfz62_1:=zq6 BK139.out 1;have hfz62_2:=zq6 BK139.out 2;have hfz62_3:=zq6 BK139.out 3))
                 go_roundg kj42
                 case measure=>have:=HK1.out;have:=HJ9.out;have:=HJ17.out;have:=HJ42.out;omega
                 case rel=>exact ⟨((wrap64 ((wrap64 (x7_1+((rdOf ByteArray.empty t135 x8_1).size:Int)))+2))),(wrap64 (x8_1+1)),(x135000_1),(x135001_1),(x140000_1),(x140001_1),(y149),(.slice Ao61 y149.length co61),(by first|rfl|(simp;done)|(simp [*];done)),(by first|rfl|(simp;done)|(simp [*];done)),H',⟨by have:=HK1.out;have:=HJ9.out;have:=HJ17.out;have:=HJ42.out;omega⟩,⟨by (with_reducible repeat (first|apply Kd.R_alloc|apply Kd.R_drewN|apply Kd.R_drew));exact Kd.R_mono (Kd.R_far (p:=⟨gb139,2,none⟩) (Kd.R_types HO_4.out BK139.out (by decide)) (fun _ hk=>hk.2) (.slice Ao61 y149.length co61)) (fun _ hk=>trivial)⟩,⟨by (with_reducible repeat (first|apply Kd.R_alloc|apply Kd.R_drewN|apply Kd.R_drew));exact Kd.R_mono (Kd.R_far (p:=⟨gb139,2,none⟩) (Kd.R_types HO151.out BK139.out (by decide)) (fun _ hk=>hk.2) (.slice Ao61 y149.length co61)) (fun _ hk=>trivial)⟩,⟨by (with_reducible repeat (first|refine zq4 ?_ _|refine zq7 ?_|refine zq3 ?_ _));refine zq23 ?_ NB134_139.out _;(with_reducible repeat (first|refine zq4 ?_ _|refine zq7 ?_|refine zq3 ?_ _));exact BK134.out⟩,⟨by (with_reducible repeat (first|refine zq4 ?_ _|refine zq7 ?_|refine zq3 ?_ _));refine zq17 (cs:=#[.string x140000_1,.string x140001_1,u140002,.slice none 0 0]) ?_ 2 _ rfl;(with_reducible repeat (first|refine zq4 ?_ _|refine zq7 ?_|refine zq3 ?_ _));exact BK139.out⟩,⟨by repeat (first|(with_reducible first|exact HB.out|apply zq1|apply zq0|apply zq2|refine zq5 ?_ GE134.out|refine zq5 ?_ GE139.out|refine zq5 ?_ GE148.out)|exact HB.out)⟩⟩
                ·rw [if_neg c52] at H
                 exact absurd H (by simp)
               ·replace c51:=Bool.eq_false_iff.mpr c51
                subst c51
                have H1:(some (x140000_1,x140001_1,x140002_1,([]:List ByteArray),0))=some (r1,r2,r3,r4,r5):=by rw [if_neg (show ¬ (false=true) by decide)] at H;exact H
                clear H
                have H:=H1
                clear H1
                simp only [Option.some.injEq,Prod.mk.injEq] at H
                obtain ⟨rfl,rfl,rfl,rfl,rfl⟩:=H
                go_wp2_with (first|((with_reducible refine zq14 (f:=76) rfl ?_);refine zq20 (some 85) rfl rfl Tryz.func76 (by kernel_rfl) rfl #[.string ((rdOf ByteArray.empty t135 x8_1).extract 3 (rdOf ByteArray.empty t135 x8_1).size)] rfl (by (try simp only [List.map_toArray,List.map_cons,List.map_nil]);first|done|rfl|(simp only [List.length_drop,List.length_take];rfl)) ?_;(with_reducible refine (spec_AddrGet.calls kj42 ((rdOf ByteArray.empty t135 x8_1).extract 3 (rdOf ByteArray.empty t135 x8_1).size) t145 t146 false _ A50.out).mono ?_);rintro e w63 ⟨rfl,hb⟩;refine ⟨_,rfl,?_⟩;have n0_:=Aside0.mk (Kd.R_below (by (with_reducible repeat (first|apply Kd.R_alloc|apply Kd.R_drewN|apply Kd.R_drew));exact HO_4.out) hb);have n1_:=Aside0.mk (Kd.R_below (by (with_reducible repeat (first|apply Kd.R_alloc|apply Kd.R_drewN|apply Kd.R_drew));exact HO_140002.out) hb);have n2_:=Aside0.mk (zq13 (g:=gb134) (o:=.cells #[.string x135000_1,.string x135001_1,.slice none 0 0,.slice none 0 0] 28 (0,0)) (by (with_reducible repeat (first|refine zq4 ?_ _|refine zq7 ?_|refine zq3 ?_ _));exact BK134.out) hb);have n3_:=Aside0.mk (zq13 (g:=gb139) (o:=.cells #[.string x140000_1,.string x140001_1,u140002,.slice none 0 0] 28 (0,0)) (by (with_reducible repeat (first|refine zq4 ?_ _|refine zq7 ?_|refine zq3 ?_ _));exact BK139.out) hb);have n4_:=Aside0.mk (zq9 (by repeat (first|(with_reducible first|exact HB.out|apply zq1|apply zq0|apply zq2|refine zq5 ?_ GE134.out|refine zq5 ?_ GE139.out)|exact HB.out)) hb);clear HO_4;clear HO_140002;clear BK134;clear BK139;clear HB;have HO_4:=n0_;have HO_140002:=n1_;have BK134:=n2_;have BK139:=n3_;have HB:=n4_;clear n0_ n1_ n2_ n3_ n4_;(try clear hb);(try clear hb2);(try clear hk);(try clear hi))|((with_reducible refine zq21 (N:=12) rfl ?_);(try (refine gate_guard (by rfl) ?_;dsimp only));refine zq22 ?hg (N:=12) ?hd (cs:=#[.string bz0,.string bz0]) (t:=24) ?hr ?_;(case hd=>rfl);(case hg=>rfl);(case hr=>first|(go_simp;done)|(go_simp;rfl));intro gb148 hg w64 hbox hb;have n0_:=Aside0.mk (Kd.R_below (by (with_reducible repeat (first|apply Kd.R_alloc|apply Kd.R_drewN|apply Kd.R_drew));exact HO_4.out) hb);have n1_:=Aside0.mk (Kd.R_below (Kd.R_elderB (by (with_reducible repeat (first|apply Kd.R_alloc|apply Kd.R_drewN|apply Kd.R_drew));exact HO_140002.out) gb148 (Nat.le_of_eq hg.symm)) hb);have n2_:=Aside0.mk (zq13 (g:=gb134) (o:=.cells #[.string x135000_1,.string x135001_1,.slice none 0 0,.slice none 0 0] 28 (0,0)) (by (with_reducible repeat (first|refine zq4 ?_ _|refine zq7 ?_|refine zq3 ?_ _));exact BK134.out) hb);have n3_:=Aside0.mk (zq13 (g:=gb139) (o:=.cells #[.string x140000_1,.string x140001_1,u140002,.slice none 0 0] 28 (0,0)) (by (with_reducible repeat (first|refine zq4 ?_ _|refine zq7 ?_|refine zq3 ?_ _));exact BK139.out) hb);have n4_:=Aside0.mk (zq9 (by repeat (first|(with_reducible first|exact HB.out|apply zq1|apply zq0|apply zq2|refine zq5 ?_ GE134.out|refine zq5 ?_ GE139.out)|exact HB.out)) hb);have n5_:=Aside0.mk (hbox);have n6_:=Aside0.mk ((by rw [hg];exact (zq10 (by repeat (first|(with_reducible first|exact HB.out|apply zq1|apply zq0|apply zq2|refine zq5 ?_ GE134.out|refine zq5 ?_ GE139.out)|exact HB.out))):w.heap.size≤gb148));have n7_:=Aside0.mk ((by rw [hg];exact (zq10 (by repeat (first|(with_reducible first|exact HB.out|apply zq1|apply zq0|apply zq2|refine zq5 ?_ GE134.out|refine zq5 ?_ GE139.out)|exact HB.out))):w.heap.size≤gb148));have n8_:=Aside0.mk ((by rw [hg];exact Nat.ne_of_lt (blk_lt (g:=gb134) (o:=.cells #[.string x135000_1,.string x135001_1,.slice none 0 0,.slice none 0 0] 28 (0,0)) (by (with_reducible repeat (first|refine zq4 ?_ _|refine zq7 ?_|refine zq3 ?_ _));exact BK134.out)):gb134≠gb148));have n9_:=Aside0.mk ((by rw [hg];exact Nat.ne_of_gt (blk_lt (g:=gb134) (o:=.cells #[.string x135000_1,.string x135001_1,.slice none 0 0,.slice none 0 0] 28 (0,0)) (by (with_reducible repeat (first|refine zq4 ?_ _|refine zq7 ?_|refine zq3 ?_ _));exact BK134.out)):gb148≠gb134));have n10_:=Aside0.mk ((by rw [hg];exact Nat.ne_of_lt (blk_lt (g:=gb139) (o:=.cells #[.string x140000_1,.string x140001_1,u140002,.slice none 0 0] 28 (0,0)) (by (with_reducible repeat (first|refine zq4 ?_ _|refine zq7 ?_|refine zq3 ?_ _));exact BK139.out)):gb139≠gb148));have n11_:=Aside0.mk ((by rw [hg];exact Nat.ne_of_gt (blk_lt (g:=gb139) (o:=.cells #[.string x140000_1,.string x140001_1,u140002,.slice none 0 0] 28 (0,0)) (by (with_reducible repeat (first|refine zq4 ?_ _|refine zq7 ?_|refine zq3 ?_ _));exact BK139.out)):gb148≠gb139));clear HO_4;clear HO_140002;clear BK134;clear BK139;clear HB;have HO_4:=n0_;have HO_140002:=n1_;have BK134:=n2_;have BK139:=n3_;have HB:=n4_;have BK148:=n5_;have GW148:=n6_;have GE148:=n7_;have NB134_148:=n8_;have NB148_134:=n9_;have NB139_148:=n10_;have NB148_139:=n11_;clear n0_ n1_ n2_ n3_ n4_ n5_ n6_ n7_ n8_ n9_ n10_ n11_;clear hb hbox hg;have hnb65:=NB148_134.out;have hnc65:=NB134_148.out;have hnb66:=NB148_139.out;have hnc66:=NB139_148.out;have hcz67_0:w64.cell? ⟨gb148,0,none⟩=some (.string bz0):=(zq8 BK148.out 0).trans rfl;have hcz67_1:w64.cell? ⟨gb148,1,none⟩=some (.string bz0):=(zq8 BK148.out 1).trans rfl;have hfz67_0:=zq6 BK148.out 0;have hfz67_1:=zq6 BK148.out 1;have hnb68:=NB139_134.out;have hnc68:=NB134_139.out;have hcz69_0:w64.cell? ⟨gb139,0,none⟩=some (.string x140000_1):=(zq8 BK139.out 0).trans rfl;have hcz69_1:w64.cell? ⟨gb139,1,none⟩=some (.string x140001_1):=(zq8 BK139.out 1).trans rfl;have hcz69_2:w64.cell? ⟨gb139,2,none⟩=some (u140002):=(zq8 BK139.out 2).trans rfl;have hcz69_3:w64.cell? ⟨gb139,3,none⟩=some (.slice none 0 0):=(zq8 BK139.out 3).trans rfl;have hfz69_0:=zq6 BK139.out 0;have hfz69_1:=zq6 BK139.out 1;have hfz69_2:=zq6 BK139.out 2;have hfz69_3:=zq6 BK139.out 3;have hcz70_0:w64.cell? ⟨gb134,0,none⟩=some (.string x135000_1):=(zq8 BK134.out 0).trans rfl;have hcz70_1:w64.cell? ⟨gb134,1,none⟩=some (.string x135001_1):=(zq8 BK134.out 1).trans rfl;have hcz70_2:w64.cell? ⟨gb134,2,none⟩=some (.slice none 0 0):=(zq8 BK134.out 2).trans rfl;have hcz70_3:w64.cell? ⟨gb134,3,none⟩=some (.slice none 0 0):=(zq8 BK134.out 3).trans rfl;have hfz70_0:=zq6 BK134.out 0;have hfz70_1:=zq6 BK134.out 1;have hfz70_2:=zq6 BK134.out 2;have hfz70_3:=zq6 BK134.out 3;obtain ⟨Ao71,co71,eo71⟩:=Kd.R_slice HO_140002.out;subst eo71))
                refine bodyPost_ret (results_ct rfl _ _ gb134 28 #[.string x140000_1,.string x140001_1,.slice Ao71 x140002_1.length co71,.slice none 0 0] (0,0) _ rfl (by (with_reducible repeat (first|refine zq4 ?_ _|refine zq7 ?_|refine zq3 ?_ _));refine zq17 (cs:=#[.string x140000_1,.string x140001_1,.slice Ao71 x140002_1.length co71,.slice none 0 0]) ?_ 3 _ rfl;(with_reducible repeat (first|refine zq4 ?_ _|refine zq7 ?_|refine zq3 ?_ _));refine zq17 (cs:=#[.string x140000_1,.string x140001_1,.slice none 0 0,.slice none 0 0]) ?_ 2 _ rfl;(with_reducible repeat (first|refine zq4 ?_ _|refine zq7 ?_|refine zq3 ?_ _));refine zq17 (cs:=#[.string x140000_1,.string x135001_1,.slice none 0 0,.slice none 0 0]) ?_ 1 _ rfl;(with_reducible repeat (first|refine zq4 ?_ _|refine zq7 ?_|refine zq3 ?_ _));refine zq17 (cs:=#[.string x135000_1,.string x135001_1,.slice none 0 0,.slice none 0 0]) ?_ 0 _ rfl;(with_reducible repeat (first|refine zq4 ?_ _|refine zq7 ?_|refine zq3 ?_ _));refine zq23 ?_ NB134_148.out _;(with_reducible repeat (first|refine zq4 ?_ _|refine zq7 ?_|refine zq3 ?_ _));refine zq23 ?_ NB134_148.out _;(with_reducible repeat (first|refine zq4 ?_ _|refine zq7 ?_|refine zq3 ?_ _));exact BK134.out) Tryz.underlying28 rfl (by kernel_rfl)) rfl ?_
                exact ⟨_,_,by first|rfl|(simp [zq11,zq12]<;>rfl)|(simp [*,zq11,zq12]<;>rfl),by (with_reducible repeat (first|apply Kd.R_alloc|apply Kd.R_drewN|apply Kd.R_drew));exact Kd.R_mono (Kd.R_far (p:=⟨gb134,3,none⟩) (Kd.R_far (p:=⟨gb134,2,none⟩) (Kd.R_far (p:=⟨gb134,1,none⟩) (Kd.R_far (p:=⟨gb134,0,none⟩) (Kd.R_far (p:=⟨gb148,1,none⟩) (Kd.R_far (p:=⟨gb148,0,none⟩) (Kd.R_types (Kd.R_mono HO_140002.out (fun k_ hk=>(⟨hk,hk.2⟩:_∧k_≠gb148))) BK134.out (by decide)) (fun _ hk=>hk.1.2) (.string t145)) (fun _ hk=>hk.1.2) (.string t146)) (fun _ hk=>hk.2) (.string x140000_1)) (fun _ hk=>hk.2) (.string x140001_1)) (fun _ hk=>hk.2) (.slice Ao71 x140002_1.length co71)) (fun _ hk=>hk.2) (.slice none 0 0)) (fun _ hk=>trivial),by first|exact Kd.R_nil _ _ _ _ _|exact Kd.N_nil _ _ _ _ _|exact Kd.V_nil _ _ _ _ _|exact Kd.Q_nil _ _ _ _ _|exact Kd.S_nil _ _ _ _ _,by repeat (first|(with_reducible first|exact HB.out|apply zq1|apply zq0|apply zq2|refine zq5 ?_ GE134.out|refine zq5 ?_ GE139.out|refine zq5 ?_ GE148.out)|exact HB.out)⟩
              ·rw [if_neg c49] at H
               exact absurd H (by simp)
             ·replace c48:=Bool.eq_false_iff.mpr c48
              subst c48
              have H1:(some (x140000_1,x140001_1,x140002_1,([]:List ByteArray),0))=some (r1,r2,r3,r4,r5):=by rw [if_neg (show ¬ (false=true) by decide)] at H;exact H
              clear H
              have H:=H1
              clear H1
              simp only [Option.some.injEq,Prod.mk.injEq] at H
              obtain ⟨rfl,rfl,rfl,rfl,rfl⟩:=H
              have hnb72:=NB139_134.out
              have hnc72:=NB134_139.out
              have hcz73_0:wc.cell? ⟨gb139,0,none⟩=some (.string x140000_1):=(zq8 BK139.out 0).trans rfl
              have hcz73_1:wc.cell? ⟨gb139,1,none⟩=some (.string x140001_1):=(zq8 BK139.out 1).trans rfl
              have hcz73_2:wc.cell? ⟨gb139,2,none⟩=some (u140002):=(zq8 BK139.out 2).trans rfl
              have hcz73_3:wc.cell? ⟨gb139,3,none⟩=some (.slice none 0 0):=(zq8 BK139.out 3).trans rfl
              have hfz73_0:=zq6 BK139.out 0
              have hfz73_1:=zq6 BK139.out 1
              have hfz73_2:=zq6 BK139.out 2
              have hfz73_3:=zq6 BK139.out 3
              have hcz74_0:wc.cell? ⟨gb134,0,none⟩=some (.string x135000_1):=(zq8 BK134.out 0).trans rfl
              have hcz74_1:wc.cell? ⟨gb134,1,none⟩=some (.string x135001_1):=(zq8 BK134.out 1).trans rfl
              have hcz74_2:wc.cell? ⟨gb134,2,none⟩=some (.slice none 0 0):=(zq8 BK134.out 2).trans rfl
              have hcz74_3:wc.cell? ⟨gb134,3,none⟩=some (.slice none 0 0):=(zq8 BK134.out 3).trans rfl
              have hfz74_0:=zq6 BK134.out 0
              have hfz74_1:=zq6 BK134.out 1
              have hfz74_2:=zq6 BK134.out 2
              have hfz74_3:=zq6 BK134.out 3
              obtain ⟨Ao75,co75,eo75⟩:=Kd.R_slice HO_140002.out
              subst eo75
              go_wp2
              refine bodyPost_ret (results_ct rfl _ _ gb134 28 #[.string x140000_1,.string x140001_1,.slice Ao75 x140002_1.length co75,.slice none 0 0] (0,0) _ rfl (by (with_reducible repeat (first|refine zq4 ?_ _|refine zq7 ?_|refine zq3 ?_ _));refine zq17 (cs:=#[.string x140000_1,.string x140001_1,.slice Ao75 x140002_1.length co75,.slice none 0 0]) ?_ 3 _ rfl;(with_reducible repeat (first|refine zq4 ?_ _|refine zq7 ?_|refine zq3 ?_ _));refine zq17 (cs:=#[.string x140000_1,.string x140001_1,.slice none 0 0,.slice none 0 0]) ?_ 2 _ rfl;(with_reducible repeat (first|refine zq4 ?_ _|refine zq7 ?_|refine zq3 ?_ _));refine zq17 (cs:=#[.string x140000_1,.string x135001_1,.slice none 0 0,.slice none 0 0]) ?_ 1 _ rfl;(with_reducible repeat (first|refine zq4 ?_ _|refine zq7 ?_|refine zq3 ?_ _));refine zq17 (cs:=#[.string x135000_1,.string x135001_1,.slice none 0 0,.slice none 0 0]) ?_ 0 _ rfl;(with_reducible repeat (first|refine zq4 ?_ _|refine zq7 ?_|refine zq3 ?_ _));exact BK134.out) Tryz.underlying28 rfl (by kernel_rfl)) rfl ?_
              exact ⟨_,_,by first|rfl|(simp [zq11,zq12]<;>rfl)|(simp [*,zq11,zq12]<;>rfl),by (with_reducible repeat (first|apply Kd.R_alloc|apply Kd.R_drewN|apply Kd.R_drew));exact Kd.R_mono (Kd.R_far (p:=⟨gb134,3,none⟩) (Kd.R_far (p:=⟨gb134,2,none⟩) (Kd.R_far (p:=⟨gb134,1,none⟩) (Kd.R_far (p:=⟨gb134,0,none⟩) (Kd.R_types HO_140002.out BK134.out (by decide)) (fun _ hk=>hk.2) (.string x140000_1)) (fun _ hk=>hk.2) (.string x140001_1)) (fun _ hk=>hk.2) (.slice Ao75 x140002_1.length co75)) (fun _ hk=>hk.2) (.slice none 0 0)) (fun _ hk=>trivial),by first|exact Kd.R_nil _ _ _ _ _|exact Kd.N_nil _ _ _ _ _|exact Kd.V_nil _ _ _ _ _|exact Kd.Q_nil _ _ _ _ _|exact Kd.S_nil _ _ _ _ _,by repeat (first|(with_reducible first|exact HB.out|apply zq1|apply zq0|apply zq2|refine zq5 ?_ GE134.out|refine zq5 ?_ GE139.out)|exact HB.out)⟩
    ·rw [if_neg c9] at H
     exact absurd H (by simp)
   ·rw [if_neg c8] at H
    have c8b0:decide (x8_1 < (t135.length:Int))=false:=decide_eq_false c8
    clear c8
    simp only [Option.some.injEq,Prod.mk.injEq] at H
    obtain ⟨rfl,rfl,rfl,rfl,rfl⟩:=H
    obtain ⟨Ao76,co76,eo76⟩:=Kd.R_slice HO_4.out
    subst eo76
    have hnb77:=NB139_134.out
    have hnc77:=NB134_139.out
    have hcz78_0:wr.cell? ⟨gb139,0,none⟩=some (.string x140000_1):=(zq8 BK139.out 0).trans rfl
    have hcz78_1:wr.cell? ⟨gb139,1,none⟩=some (.string x140001_1):=(zq8 BK139.out 1).trans rfl
    have hcz78_2:wr.cell? ⟨gb139,2,none⟩=some (u140002):=(zq8 BK139.out 2).trans rfl
    have hcz78_3:wr.cell? ⟨gb139,3,none⟩=some (.slice none 0 0):=(zq8 BK139.out 3).trans rfl
    have hfz78_0:=zq6 BK139.out 0
    have hfz78_1:=zq6 BK139.out 1
    have hfz78_2:=zq6 BK139.out 2
    have hfz78_3:=zq6 BK139.out 3
    have hcz79_0:wr.cell? ⟨gb134,0,none⟩=some (.string x135000_1):=(zq8 BK134.out 0).trans rfl
    have hcz79_1:wr.cell? ⟨gb134,1,none⟩=some (.string x135001_1):=(zq8 BK134.out 1).trans rfl
    have hcz79_2:wr.cell? ⟨gb134,2,none⟩=some (.slice none 0 0):=(zq8 BK134.out 2).trans rfl
    have hcz79_3:wr.cell? ⟨gb134,3,none⟩=some (.slice none 0 0):=(zq8 BK134.out 3).trans rfl
    have hfz79_0:=zq6 BK134.out 0
    have hfz79_1:=zq6 BK134.out 1
    have hfz79_2:=zq6 BK134.out 2
    have hfz79_3:=zq6 BK134.out 3
    obtain ⟨Ao80,co80,eo80⟩:=Kd.R_slice HO_140002.out
    subst eo80
    go_wp2
    refine bodyPost_ret (results_ct rfl _ _ gb134 28 #[.string x140000_1,.string x140001_1,.slice Ao80 x140002_1.length co80,.slice none 0 0] (0,0) _ rfl (by (with_reducible repeat (first|refine zq4 ?_ _|refine zq7 ?_|refine zq3 ?_ _));refine zq17 (cs:=#[.string x140000_1,.string x140001_1,.slice Ao80 x140002_1.length co80,.slice none 0 0]) ?_ 3 _ rfl;(with_reducible repeat (first|refine zq4 ?_ _|refine zq7 ?_|refine zq3 ?_ _));refine zq17 (cs:=#[.string x140000_1,.string x140001_1,.slice none 0 0,.slice none 0 0]) ?_ 2 _ rfl;(with_reducible repeat (first|refine zq4 ?_ _|refine zq7 ?_|refine zq3 ?_ _));refine zq17 (cs:=#[.string x140000_1,.string x135001_1,.slice none 0 0,.slice none 0 0]) ?_ 1 _ rfl;(with_reducible repeat (first|refine zq4 ?_ _|refine zq7 ?_|refine zq3 ?_ _));refine zq17 (cs:=#[.string x135000_1,.string x135001_1,.slice none 0 0,.slice none 0 0]) ?_ 0 _ rfl;(with_reducible repeat (first|refine zq4 ?_ _|refine zq7 ?_|refine zq3 ?_ _));exact BK134.out) Tryz.underlying28 rfl (by kernel_rfl)) rfl ?_
    exact ⟨_,_,by first|rfl|(simp [zq11,zq12]<;>rfl)|(simp [*,zq11,zq12]<;>rfl),by (with_reducible repeat (first|apply Kd.R_alloc|apply Kd.R_drewN|apply Kd.R_drew));exact Kd.R_mono (Kd.R_far (p:=⟨gb134,3,none⟩) (Kd.R_far (p:=⟨gb134,2,none⟩) (Kd.R_far (p:=⟨gb134,1,none⟩) (Kd.R_far (p:=⟨gb134,0,none⟩) (Kd.R_types HO_140002.out BK134.out (by decide)) (fun _ hk=>hk.2) (.string x140000_1)) (fun _ hk=>hk.2) (.string x140001_1)) (fun _ hk=>hk.2) (.slice Ao80 x140002_1.length co80)) (fun _ hk=>hk.2) (.slice none 0 0)) (fun _ hk=>trivial),by first|exact Kd.R_nil _ _ _ _ _|exact Kd.N_nil _ _ _ _ _|exact Kd.V_nil _ _ _ _ _|exact Kd.Q_nil _ _ _ _ _|exact Kd.S_nil _ _ _ _ _,by repeat (first|(with_reducible first|exact HB.out|apply zq1|apply zq0|apply zq2|refine zq5 ?_ GE134.out|refine zq5 ?_ GE139.out)|exact HB.out)⟩
end Go.Proofs.YthkibaldmjfmmaaGreatDoor.Q
