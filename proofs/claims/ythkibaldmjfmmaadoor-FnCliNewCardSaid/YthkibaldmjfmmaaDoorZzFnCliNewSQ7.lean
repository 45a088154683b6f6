/- Of a text of ours what this claim needs. -/
import Derived.Test.YthkibaldmjfmmaaDoorZzFnCliNewSQ0
import Derived.Test.YthkibaldmjfmmaaDoorZzFnCliNewSQ1
import Derived.Test.YthkibaldmjfmmaaDoorZzFnCliNewSHClone
import Derived.Test.YthkibaldmjfmmaaDoorZzFnCliNewSHSplit
namespace Go.Proofs.YthkibaldmjfmmaaDoor.Q
open Go.RowKit Go.Proofs.YthkibaldmjfmmaaDoorW.PrintWords Go.Proofs.YthkibaldmjfmmaaDoorW.PrintLast Go.Proofs.YthkibaldmjfmmaaDoorW.PrintMore
attribute [local go_sem] max2_int min2_int max_two min_two max_three min_three max_four min_four
set_option linter.unusedVariables false
set_option linter.unusedSimpArgs false
attribute [local go_sem high] eqA30
def impl_Mail_copied.f (a0_0:ByteArray) (a0_1:ByteArray) (l0_2:List (S30)) (l0_3:List ByteArray):Option (ByteArray × ByteArray × (List (S30)) × List ByteArray):=(slices_Clone_impl_Addr_impl_Addr.f l0_2).bind fun t103=>((slices_Clone_string_string.f l0_3).bind fun t106=>(some (a0_0,a0_1,t103,t106)))
def impl_Mail_copied.T1:Bool × List (List Nat × List Nat):=(true,[([],[]),([0],[0]),([1],[1]),([],[]),([3],[3]),([4,2],[4]),([0,1,2,3,4],[]),([6,2,5,0,1,2,3,4],[2,6]),([0,1,2,3,4,5,6,7],[]),([8,5,7,0,1,2,3,4,5,6,7],[5,8])])
def impl_Mail_copied.B1:List Nat:=[0,1,3,0,8,31,31,127,255,511]
theorem impl_Mail_copied.tab1:rtab .any (opsOf Tryd.f82 1)=impl_Mail_copied.T1:=by kernel_rfl
theorem impl_Mail_copied.bits1:waitsOk impl_Mail_copied.T1.2 impl_Mail_copied.B1=true:=by kernel_rfl
set_option maxHeartbeats 8000000 in
set_option maxRecDepth 100000 in
theorem impl_Mail_copied.calls (a0_0:ByteArray) (a0_1:ByteArray) (A0_2:Option Addr) (c0_2:Nat) (l0_2:List (S30)) (A0_3:Option Addr) (c0_3:Nat) (l0_3:List ByteArray) (r1:ByteArray) (r2:ByteArray) (r3:List (S30)) (r4:List ByteArray) (w:World) (hr0_2:Kd.C k30 w A0_2 l0_2.length l0_2) (hc0_2:l0_2.length≤c0_2) (hr0_3:Kd.C Kd.string w A0_3 l0_3.length l0_3) (hc0_3:l0_3.length≤c0_3) (h:impl_Mail_copied.f a0_0 a0_1 l0_2 l0_3=some (r1,r2,r3,r4)) :
 Calls Tryd.prog 82 #[.agg #[.string a0_0,.string a0_1,.slice A0_2 l0_2.length c0_2,.slice A0_3 l0_3.length c0_3]] w fun e w'=>∃ v2_ v3_:Value,e=.returned (.agg #[.string r1,.string r2,v2_,v3_])∧Kd.R k30 30 w' w.heap.size (fun _=>True) v2_ r3∧Kd.R Kd.string 9 w' w.heap.size (fun _=>True) v3_ r4∧Below w.heap.size w w':=by
 have hu33:=Tryd.underlying33
 have HR0_2:=zA hr0_2
 have HC0_2:=zA hc0_2
 clear hr0_2 hc0_2
 have HR0_3:=zA hr0_3
 have HC0_3:=zA hc0_3
 clear hr0_3 hc0_3
 have HB:=zA (Below.refl w.heap.size w)
 have H:((slices_Clone_impl_Addr_impl_Addr.f l0_2).bind fun t103=>((slices_Clone_string_string.f l0_3).bind fun t106=>(some (a0_0,a0_1,t103,t106))))=some (r1,r2,r3,r4):=h
 clear h
 replace H:=Option.bind_eq_some_iff.mp H
 obtain ⟨t103,A20,H⟩:=H
 replace H:((slices_Clone_string_string.f l0_3).bind fun t106=>(some (a0_0,a0_1,t103,t106)))=some (r1,r2,r3,r4):=H
 have A2:=zA A20
 clear A20
 replace H:=Option.bind_eq_some_iff.mp H
 obtain ⟨t106,A30,H⟩:=H
 replace H:(some (a0_0,a0_1,t103,t106))=some (r1,r2,r3,r4):=H
 have A3:=zA A30
 clear A30
 simp only [Option.some.injEq,Prod.mk.injEq] at H
 obtain ⟨rfl,rfl,rfl,rfl⟩:=H
 go_enter Tryd.func82,Tryd.ntmps82
 try go_wp2_with (first|((with_reducible refine zq21 (N:=1) rfl ?_);refine zq23 ?hg (N:=1) ?hd (cs:=#[.string a0_0,.string a0_1,.slice A0_2 l0_2.length c0_2,.slice A0_3 l0_3.length c0_3]) (t:=33) ?hr ?_;(case hd=>rfl);(case hg=>rfl);(case hr=>first|(go_simp;done)|(go_simp;rfl));intro gb101 hg w4 hbox hb;have n0_:=zA (zq11 (by repeat (first|(with_reducible first|exact HB.out|apply zq4|apply zq0|apply zq3)|exact HB.out)) hb);have n1_:=zA (hbox);have n2_:=zA ((by rw [hg];exact (zq14 (by repeat (first|(with_reducible first|exact HB.out|apply zq4|apply zq0|apply zq3)|exact HB.out))):w.heap.size≤gb101));have n3_:=zA ((by rw [hg];exact (zq14 (by repeat (first|(with_reducible first|exact HB.out|apply zq4|apply zq0|apply zq3)|exact HB.out))):w.heap.size≤gb101));clear HB;have HB:=n0_;have BK101:=n1_;have GW101:=n2_;have GE101:=n3_;clear n0_ n1_ n2_ n3_;clear hb hbox hg)|((with_reducible refine zq21 (N:=2) rfl ?_);refine zq23 ?hg (N:=2) ?hd (cs:=#[.string bz0,.string bz0,.slice none 0 0,.slice none 0 0]) (t:=33) ?hr ?_;(case hd=>rfl);(case hg=>rfl);(case hr=>first|(go_simp;done)|(go_simp;rfl));intro gb102 hg w5 hbox hb;have n0_:=zA (zq13 (by (with_reducible repeat (first|refine zq6 ?_ _|refine zq8 ?_|refine zq5 ?_ _));exact BK101.out) hb);have n1_:=zA (zq11 (by repeat (first|(with_reducible first|exact HB.out|apply zq4|apply zq0|apply zq3|refine zq2 ?_ GE101.out)|exact HB.out)) hb);have n2_:=zA (hbox);have n3_:=zA ((by rw [hg];exact (zq14 (by repeat (first|(with_reducible first|exact HB.out|apply zq4|apply zq0|apply zq3|refine zq2 ?_ GE101.out)|exact HB.out))):w.heap.size≤gb102));have n4_:=zA ((by rw [hg];exact (zq14 (by repeat (first|(with_reducible first|exact HB.out|apply zq4|apply zq0|apply zq3|refine zq2 ?_ GE101.out)|exact HB.out))):w.heap.size≤gb102));have n5_:=zA ((by rw [hg];exact Nat.ne_of_lt (zq25 (g:=gb101) (o:=.cells #[.string a0_0,.string a0_1,.slice A0_2 l0_2.length c0_2,.slice A0_3 l0_3.length c0_3] 33 (0,0)) (by (with_reducible repeat (first|refine zq6 ?_ _|refine zq8 ?_|refine zq5 ?_ _));exact BK101.out)):gb101≠gb102));have n6_:=zA ((by rw [hg];exact Nat.ne_of_gt (zq25 (g:=gb101) (o:=.cells #[.string a0_0,.string a0_1,.slice A0_2 l0_2.length c0_2,.slice A0_3 l0_3.length c0_3] 33 (0,0)) (by (with_reducible repeat (first|refine zq6 ?_ _|refine zq8 ?_|refine zq5 ?_ _));exact BK101.out)):gb102≠gb101));clear BK101;clear HB;have BK101:=n0_;have HB:=n1_;have BK102:=n2_;have GW102:=n3_;have GE102:=n4_;have NB101_102:=n5_;have NB102_101:=n6_;clear n0_ n1_ n2_ n3_ n4_ n5_ n6_;clear hb hbox hg))
 have n0_:=zA (zq8 BK101.out)
 have n1_:=zA (zq8 BK102.out)
 have n2_:=zA (zq3 HB.out)
 clear BK101
 clear BK102
 clear HB
 have BK101:=n0_
 have BK102:=n1_
 have HB:=n2_
 clear n0_ n1_ n2_
 refine start_ (n:=10) (S:=fun w'=>w'.cell? ⟨gb101,0,none⟩=some (.string a0_0)∧w'.cell? ⟨gb101,1,none⟩=some (.string a0_1)∧w'.cell? ⟨gb101,2,none⟩=some (.slice A0_2 l0_2.length c0_2)∧w'.cell? ⟨gb101,3,none⟩=some (.slice A0_3 l0_3.length c0_3)) (ds:=[7,9]) #[false,false,false,false,false,false,false,false,false,false] (by kernel_rfl) rfl rfl ⟨zq1 BK101.out 0,zq1 BK101.out 1,zq1 BK101.out 2,zq1 BK101.out 3⟩ (fun hHeld=>?_);refine with_tabW impl_Mail_copied.tab1 impl_Mail_copied.bits1 (fun HT_ HW_=>?_)
 generalize w5.drew=w6 at BK101 BK102 HB hHeld ⊢
 refine pure_ (i:=0) (N:=some 3) (v:=?_) (a':=?_) #[true,false,false,false,false,false,false,false,false,false] rfl rfl (any_of HT_.out (by kernel_rfl)) (fun _ _ _ h=>h) (Or.inl ⟨by rfl,?_⟩) ?_ ?_
 rotate_left
 ·intro w'
  go_simp
  with_reducible rfl
 rotate_left
 ·simp only [Act.put,zL0,zL1,zL2,i64_w,i32_w]
  rfl
 refine pure_ (i:=3) (N:=some 6) (v:=?_) (a':=?_) #[true,false,false,true,false,false,false,false,false,false] rfl rfl (any_of HT_.out (by kernel_rfl)) (fun _ _ _ h=>h) (Or.inl ⟨by rfl,?_⟩) ?_ ?_
 rotate_left
 ·intro w'
  go_simp
  with_reducible rfl
 rotate_left
 ·simp only [Act.put,zL0,zL1,zL2,i64_w,i32_w]
  rfl
 refine take_ (i:=1) (N:=some 4) (v:=?_) (a':=?_) #[true,true,false,true,false,false,false,false,false,false] rfl rfl (take_ofW HT_.out HW_.out (by kernel_rfl)) (fun _ _ _ h=>h) (Or.inl ⟨by rfl,?_⟩) hHeld ?_ ?_
 rotate_left
 ·rintro w' ⟨s0,s1,s2,s3⟩
  go_simp
  with_reducible rfl
 rotate_left
 ·simp only [Act.put,zL0,zL1,zL2,i64_w,i32_w]
  rfl
 refine take_ (i:=4) (N:=some 7) (v:=?_) (a':=?_) #[true,true,false,true,true,false,false,false,false,false] rfl rfl (take_ofW HT_.out HW_.out (by kernel_rfl)) (fun _ _ _ h=>h) (Or.inl ⟨by rfl,?_⟩) hHeld ?_ ?_
 rotate_left
 ·rintro w' ⟨s0,s1,s2,s3⟩
  go_simp
  with_reducible rfl
 rotate_left
 ·simp only [Act.put,zL0,zL1,zL2,i64_w,i32_w]
  rfl
 refine one_ (i:=2) (N:=some 5) #[true,true,true,true,true,false,false,false,false,false] rfl rfl (one_of HT_.out (by kernel_rfl)) (by decide) (fun K hK=>?_)
 refine goes_ Tryd.func117 (by kernel_rfl) rfl #[.slice A0_2 l0_2.length c0_2] (by rfl) rfl rfl (by (try simp only [zL3,zL4,zL5]);first|done|rfl|(simp only [zL6,zL7];rfl)) ?_
 with_reducible refine (slices_Clone_impl_Addr_impl_Addr.calls _ _ l0_2 t103 _ ?side1 ?side2 A2.out).mono ?_
 (case side1=>repeat (first|exact (Kd.z1 HR0_2.out HB.out)|(with_reducible refine Kd.z0 ?_ _)|(with_reducible refine Kd.z3 ?_ _)|(with_reducible refine Kd.z2 ?_)))
 (case side2=>exact HC0_2.out)
 rintro e w7 ⟨v104,rfl,ho0,hb⟩
 refine ⟨_,rfl,?_⟩
 have n0_:=zA (Kd.z10 ho0 (zq14 (by repeat (first|(with_reducible first|exact HB.out|apply zq4|apply zq0|apply zq3|refine zq2 ?_ GE101.out|refine zq2 ?_ GE102.out)|exact HB.out))))
 have n1_:=zA (zq13 (by (with_reducible repeat (first|refine zq6 ?_ _|refine zq8 ?_|refine zq5 ?_ _));exact BK101.out) hb)
 have n2_:=zA (zq13 (by (with_reducible repeat (first|refine zq6 ?_ _|refine zq8 ?_|refine zq5 ?_ _));exact BK102.out) hb)
 have n3_:=zA (zq11 (by repeat (first|(with_reducible first|exact HB.out|apply zq4|apply zq0|apply zq3|refine zq2 ?_ GE101.out|refine zq2 ?_ GE102.out)|exact HB.out)) hb)
 clear BK101
 clear BK102
 clear HB
 have HO105:=n0_
 have BK101:=n1_
 have BK102:=n2_
 have HB:=n3_
 clear n0_ n1_ n2_ n3_
 (try clear hb)
 (try clear hk)
 (try clear ho0)
 refine hK.out _ _ ⟨zq1 BK101.out 0,zq1 BK101.out 1,zq1 BK101.out 2,zq1 BK101.out 3⟩ (fun hHeld=>?_)
 clear hK K
 refine norm_ (a':=?_) ?_ ?_
 rotate_left
 ·show Act.put _ (some 5) _=_
  simp only [Act.put,zL0,zL1,zL2,i64_w,i32_w]
  rfl
 refine pure_ (i:=6) (N:=some 9) (v:=?_) (a':=?_) #[true,true,true,true,true,false,true,false,false,false] rfl rfl (any_of HT_.out (by kernel_rfl)) (fun _ _ _ h=>h) (Or.inl ⟨by rfl,?_⟩) ?_ ?_
 rotate_left
 ·intro w'
  go_simp
  with_reducible rfl
 rotate_left
 ·simp only [Act.put,zL0,zL1,zL2,i64_w,i32_w]
  rfl
 refine one_ (i:=5) (N:=some 8) #[true,true,true,true,true,true,true,false,false,false] rfl rfl (one_of HT_.out (by kernel_rfl)) (by decide) (fun K hK=>?_)
 refine goes_ Tryd.func118 (by kernel_rfl) rfl #[.slice A0_3 l0_3.length c0_3] (by rfl) rfl rfl (by (try simp only [zL3,zL4,zL5]);first|done|rfl|(simp only [zL6,zL7];rfl)) ?_
 with_reducible refine (slices_Clone_string_string.calls _ _ l0_3 t106 _ ?side1 ?side2 A3.out).mono ?_
 (case side1=>repeat (first|exact (Kd.z1 HR0_3.out HB.out)|(with_reducible refine Kd.z0 ?_ _)|(with_reducible refine Kd.z3 ?_ _)|(with_reducible refine Kd.z2 ?_)))
 (case side2=>exact HC0_3.out)
 rintro e w8 ⟨v107,rfl,ho0,hb⟩
 refine ⟨_,rfl,?_⟩
 have n0_:=zA (Kd.z5 (by (with_reducible repeat (first|apply Kd.z4|apply Kd.z7|apply Kd.z6));exact HO105.out) hb)
 have n1_:=zA (Kd.z10 ho0 (zq14 (by repeat (first|(with_reducible first|exact HB.out|apply zq4|apply zq0|apply zq3|refine zq2 ?_ GE101.out|refine zq2 ?_ GE102.out)|exact HB.out))))
 have n2_:=zA (zq13 (by (with_reducible repeat (first|refine zq6 ?_ _|refine zq8 ?_|refine zq5 ?_ _));exact BK101.out) hb)
 have n3_:=zA (zq13 (by (with_reducible repeat (first|refine zq6 ?_ _|refine zq8 ?_|refine zq5 ?_ _));exact BK102.out) hb)
 have n4_:=zA (zq11 (by repeat (first|(with_reducible first|exact HB.out|apply zq4|apply zq0|apply zq3|refine zq2 ?_ GE101.out|refine zq2 ?_ GE102.out)|exact HB.out)) hb)
 clear HO105
 clear BK101
 clear BK102
 clear HB
 have HO105:=n0_
 have HO108:=n1_
 have BK101:=n2_
 have BK102:=n3_
 have HB:=n4_
 clear n0_ n1_ n2_ n3_ n4_
 (try clear hb)
 (try clear hk)
 (try clear ho0)
 obtain ⟨Ao9,co9,eo9⟩:=Kd.z13 HO105.out
 (first|subst eo9|(injection eo9 with f1_ f2_ f3_;have f4_:=f1_.symm;have f5_:=f3_.symm;clear f1_ f2_ f3_;subst f4_;subst f5_))
 obtain ⟨Ao11,co11,eo11⟩:=Kd.z13 HO108.out
 (first|subst eo11|(injection eo11 with f1_ f2_ f3_;have f4_:=f1_.symm;have f5_:=f3_.symm;clear f1_ f2_ f3_;subst f4_;subst f5_))
 refine hK.out _ _ ⟨zq1 BK101.out 0,zq1 BK101.out 1,zq1 BK101.out 2,zq1 BK101.out 3⟩ (fun hHeld=>?_)
 clear hK K
 refine norm_ (a':=?_) ?_ ?_
 rotate_left
 ·show Act.put _ (some 8) _=_
  simp only [Act.put,zL0,zL1,zL2,i64_w,i32_w]
  rfl
 refine last_ (i:=7) (N:=none) #[true,true,true,true,true,true,true,true,false,false] rfl rfl (one_of HT_.out (by kernel_rfl)) (by decide) (fun K hK=>?_)
 have hs10:w8.cell? ⟨gb101,2,none⟩=some (.slice A0_2 l0_2.length c0_2):=zq1 BK101.out 2
 have hfs10:=zq7 BK101.out 2
 have hns10_1:=NB102_101.out
 have hms10_1:=NB101_102.out
 refine skip_ (w1:=?_) (by rfl) rfl ?_ ?_
 rotate_left
 ·go_simp
  rfl
 refine hK.out _ _ ?_
 clear hK K
 refine pure_ (i:=8) (N:=some 10) (v:=?_) (a':=?_) #[true,true,true,true,true,true,true,true,true,false] rfl rfl (any_of HT_.out (by kernel_rfl)) (fun _ _ _ h=>h) (Or.inl ⟨by rfl,?_⟩) ?_ ?_
 rotate_left
 ·intro w'
  go_simp
  with_reducible rfl
 rotate_left
 ·simp only [Act.put,zL0,zL1,zL2,i64_w,i32_w]
  rfl
 refine last_ (i:=9) (N:=none) #[true,true,true,true,true,true,true,true,true,true] rfl rfl (one_of HT_.out (by kernel_rfl)) (by decide) (fun K hK=>?_)
 have hs12:w8.cell? ⟨gb101,3,none⟩=some (.slice A0_3 l0_3.length c0_3):=zq1 BK101.out 3
 have hfs12:=zq7 BK101.out 3
 have hns12_1:=NB102_101.out
 have hms12_1:=NB101_102.out
 refine skip_ (w1:=?_) (by rfl) rfl ?_ ?_
 rotate_left
 ·go_simp
  rfl
 refine hK.out _ _ ?_
 clear hK K
 refine done_ (done_of HT_.out (by kernel_rfl)) ?_
 have hnb13:=NB101_102.out
 have hnc13:=NB102_101.out
 have hcz14_0:w8.cell? ⟨gb101,0,none⟩=some (.string a0_0):=zq1 BK101.out 0
 have hcz14_1:w8.cell? ⟨gb101,1,none⟩=some (.string a0_1):=zq1 BK101.out 1
 have hcz14_2:w8.cell? ⟨gb101,2,none⟩=some (.slice A0_2 l0_2.length c0_2):=zq1 BK101.out 2
 have hcz14_3:w8.cell? ⟨gb101,3,none⟩=some (.slice A0_3 l0_3.length c0_3):=zq1 BK101.out 3
 have hfz14_0:=zq7 BK101.out 0
 have hfz14_1:=zq7 BK101.out 1
 have hfz14_2:=zq7 BK101.out 2
 have hfz14_3:=zq7 BK101.out 3
 have hcz15_0:w8.cell? ⟨gb102,0,none⟩=some (.string bz0):=zq1 BK102.out 0
 have hcz15_1:w8.cell? ⟨gb102,1,none⟩=some (.string bz0):=zq1 BK102.out 1
 have hcz15_2:w8.cell? ⟨gb102,2,none⟩=some (.slice none 0 0):=zq1 BK102.out 2
 have hcz15_3:w8.cell? ⟨gb102,3,none⟩=some (.slice none 0 0):=zq1 BK102.out 3
 have hfz15_0:=zq7 BK102.out 0
 have hfz15_1:=zq7 BK102.out 1
 have hfz15_2:=zq7 BK102.out 2
 have hfz15_3:=zq7 BK102.out 3
 try go_wp2
 refine bodyPost_ret (results_cell_row rfl _ _ gb102 33 #[.string a0_0,.string a0_1,.slice Ao9 t103.length co9,.slice Ao11 t106.length co11] (0,0) _ rfl (by (with_reducible repeat (first|refine zq6 ?_ _|refine zq8 ?_|refine zq5 ?_ _));refine zq18 (cs:=#[.string a0_0,.string a0_1,.slice Ao9 t103.length co9,.slice none 0 0]) ?_ 3 _ rfl;(with_reducible repeat (first|refine zq6 ?_ _|refine zq8 ?_|refine zq5 ?_ _));refine zq18 (cs:=#[.string a0_0,.string a0_1,.slice none 0 0,.slice none 0 0]) ?_ 2 _ rfl;(with_reducible repeat (first|refine zq6 ?_ _|refine zq8 ?_|refine zq5 ?_ _));refine zq18 (cs:=#[.string a0_0,.string bz0,.slice none 0 0,.slice none 0 0]) ?_ 1 _ rfl;(with_reducible repeat (first|refine zq6 ?_ _|refine zq8 ?_|refine zq5 ?_ _));refine zq18 (cs:=#[.string bz0,.string bz0,.slice none 0 0,.slice none 0 0]) ?_ 0 _ rfl;(with_reducible repeat (first|refine zq6 ?_ _|refine zq8 ?_|refine zq5 ?_ _));refine zq24 ?_ NB102_101.out _;(with_reducible repeat (first|refine zq6 ?_ _|refine zq8 ?_|refine zq5 ?_ _));refine zq24 ?_ NB102_101.out _;(with_reducible repeat (first|refine zq6 ?_ _|refine zq8 ?_|refine zq5 ?_ _));exact BK102.out) Tryd.underlying33 rfl (by kernel_rfl)) rfl ?_
 exact ⟨_,_,by first|rfl|(simp [zq16,zq17]<;>rfl)|(simp [*,zq16,zq17]<;>rfl),by (with_reducible repeat (first|apply Kd.z4|apply Kd.z7|apply Kd.z6));exact Kd.z11 (Kd.z8 (p:=⟨gb102,3,none⟩) (Kd.z8 (p:=⟨gb102,2,none⟩) (Kd.z8 (p:=⟨gb102,1,none⟩) (Kd.z8 (p:=⟨gb102,0,none⟩) (Kd.z8 (p:=⟨gb101,3,none⟩) (Kd.z8 (p:=⟨gb101,2,none⟩) (Kd.z14 (Kd.z14 HO105.out BK101.out (by decide)) BK102.out (by decide)) (fun _ hk=>hk.1.2) (.slice Ao9 t103.length co9)) (fun _ hk=>hk.1.2) (.slice Ao11 t106.length co11)) (fun _ hk=>hk.2) (.string a0_0)) (fun _ hk=>hk.2) (.string a0_1)) (fun _ hk=>hk.2) (.slice Ao9 t103.length co9)) (fun _ hk=>hk.2) (.slice Ao11 t106.length co11)) (fun _ hk=>trivial),by (with_reducible repeat (first|apply Kd.z4|apply Kd.z7|apply Kd.z6));exact Kd.z11 (Kd.z8 (p:=⟨gb102,3,none⟩) (Kd.z8 (p:=⟨gb102,2,none⟩) (Kd.z8 (p:=⟨gb102,1,none⟩) (Kd.z8 (p:=⟨gb102,0,none⟩) (Kd.z8 (p:=⟨gb101,3,none⟩) (Kd.z8 (p:=⟨gb101,2,none⟩) (Kd.z14 (Kd.z14 HO108.out BK101.out (by decide)) BK102.out (by decide)) (fun _ hk=>hk.1.2) (.slice Ao9 t103.length co9)) (fun _ hk=>hk.1.2) (.slice Ao11 t106.length co11)) (fun _ hk=>hk.2) (.string a0_0)) (fun _ hk=>hk.2) (.string a0_1)) (fun _ hk=>hk.2) (.slice Ao9 t103.length co9)) (fun _ hk=>hk.2) (.slice Ao11 t106.length co11)) (fun _ hk=>trivial),by repeat (first|(with_reducible first|exact HB.out|apply zq4|apply zq0|apply zq3|refine zq2 ?_ GE101.out|refine zq2 ?_ GE102.out)|exact HB.out)⟩
def impl_within.f (a0:Int) (a1:Int) (a2:Int):Option (Bool):=if a0≥a1 then (some (decide (a0≤a2))) else (some false)
set_option maxHeartbeats 8000000 in
set_option maxRecDepth 100000 in
theorem impl_within.calls (a0:Int) (a1:Int) (a2:Int) (r:Bool) (w:World) (h:impl_within.f a0 a1 a2=some r) :
 Calls Tryd.prog 49 #[.int .i64 a0,.int .i64 a1,.int .i64 a2] w fun e w'=>e=.returned (.bool r)∧Drawn0 w w':=by
 have H:(if a0≥a1 then (some (decide (a0≤a2))) else (some false))=some r:=h
 clear h
 by_cases c4:a0≥a1
 ·rw [if_pos c4] at H
  have c4b0:decide (a1≤a0)=true:=decide_eq_true c4
  clear c4
  obtain rfl:=Option.some.inj H
  go_enter Tryd.func49,Tryd.ntmps49
  go_wp2
  go_ret
  exact ⟨by first|rfl|(simp;done)|(simp [*];done),by repeat (first|exact Drawn0.refl _|apply Drawn0.step)⟩
 ·rw [if_neg c4] at H
  have c4b0:decide (a1≤a0)=false:=decide_eq_false c4
  clear c4
  obtain rfl:=Option.some.inj H
  go_enter Tryd.func49,Tryd.ntmps49
  go_wp2
  go_ret
  exact ⟨by first|rfl|(simp;done)|(simp [*];done),by repeat (first|exact Drawn0.refl _|apply Drawn0.step)⟩
def impl_isLabel.f (a0:ByteArray):Option (Bool):=(impl_within.f (a0.size:Int) 1 8).bind fun t101=>(if t101=true then ((strings_Trim.f a0 (⟨#[97,98,99,100,101,102,103,104,105,106,107,108,109,110,111,112,113,114,115,116,117,118,119,120,121,122,48,49,50,51,52,53,54,55,56,57]⟩:ByteArray)).bind fun t102=>(some (t102.toList==([]:List UInt8)))) else (some false))
set_option maxHeartbeats 8000000 in
set_option maxRecDepth 100000 in
theorem impl_isLabel.calls (a0:ByteArray) (r:Bool) (w:World) (h:impl_isLabel.f a0=some r) :
 Calls Tryd.prog 94 #[.string a0] w fun e w'=>e=.returned (.bool r)∧Below w.heap.size w w':=by
 have HB:=zA (Below.refl w.heap.size w)
 have H:((impl_within.f (a0.size:Int) 1 8).bind fun t101=>(if t101=true then ((strings_Trim.f a0 bz34).bind fun t102=>(some (t102.toList==([]:List UInt8)))) else (some false)))=some r:=h
 clear h
 replace H:=Option.bind_eq_some_iff.mp H
 obtain ⟨t101,A20,H⟩:=H
 replace H:(if t101=true then ((strings_Trim.f a0 bz34).bind fun t102=>(some (t102.toList==([]:List UInt8)))) else (some false))=some r:=H
 have A2:=zA A20
 clear A20
 by_cases c3:t101=true
 ·subst c3
  have H1:((strings_Trim.f a0 bz34).bind fun t102=>(some (t102.toList==([]:List UInt8))))=some r:=by rw [if_pos rfl] at H;exact H
  clear H
  have H:=H1
  clear H1
  replace H:=Option.bind_eq_some_iff.mp H
  obtain ⟨t102,A40,H⟩:=H
  replace H:(some (t102.toList==([]:List UInt8)))=some r:=H
  have A4:=zA A40
  clear A40
  obtain rfl:=Option.some.inj H
  go_enter Tryd.func94,Tryd.ntmps94
  go_wp2_with (first|((with_reducible refine zq19 (f:=49) rfl ?_);refine goesL_ (some 5) rfl rfl Tryd.func49 (by kernel_rfl) rfl #[.int .i64 (a0.size:Int),.int .i64 1,.int .i64 8] rfl (by (try simp only [zL3,zL4,zL5]);first|done|rfl|(simp only [zL6,zL7];rfl)) ?_;(with_reducible refine (impl_within.calls (a0.size:Int) 1 8 true _ A2.out).mono ?_);rintro e w' ⟨rfl,⟨nd,rfl⟩⟩;refine ⟨_,rfl,?_⟩)|(go_at_call 131;(with_reducible refine (strings_Trim.calls a0 bz34 t102 _ A4.out).mono ?_);rintro e w5 ⟨rfl,hb⟩;have n0_:=zA (zq11 (by repeat (first|(with_reducible first|exact HB.out|apply zq4|apply zq0|apply zq3)|exact HB.out)) hb);clear HB;have HB:=n0_;clear n0_;(try clear hb)))
  go_ret
  exact ⟨by first|rfl|(simp [zq16,zq17]<;>rfl)|(simp [*,zq16,zq17]<;>rfl)|(simp [*,zq16,zq17];cases t102.toList<;>rfl),by repeat (first|(with_reducible first|exact HB.out|apply zq4|apply zq0|apply zq3)|exact HB.out)⟩
 ·replace c3:=Bool.eq_false_iff.mpr c3
  subst c3
  have H1:(some false)=some r:=by rw [if_neg (show ¬ (false=true) by decide)] at H;exact H
  clear H
  have H:=H1
  clear H1
  obtain rfl:=Option.some.inj H
  go_enter Tryd.func94,Tryd.ntmps94
  go_wp2_with (first|((with_reducible refine zq19 (f:=49) rfl ?_);refine goesL_ (some 5) rfl rfl Tryd.func49 (by kernel_rfl) rfl #[.int .i64 (a0.size:Int),.int .i64 1,.int .i64 8] rfl (by (try simp only [zL3,zL4,zL5]);first|done|rfl|(simp only [zL6,zL7];rfl)) ?_;(with_reducible refine (impl_within.calls (a0.size:Int) 1 8 false _ A2.out).mono ?_);rintro e w' ⟨rfl,⟨nd,rfl⟩⟩;refine ⟨_,rfl,?_⟩))
  go_ret
  exact ⟨by first|rfl|(simp [zq16,zq17]<;>rfl)|(simp [*,zq16,zq17]<;>rfl)|(simp [*,zq16,zq17];cases t102.toList<;>rfl),by repeat (first|(with_reducible first|exact HB.out|apply zq4|apply zq0|apply zq3)|exact HB.out)⟩
def impl_DomainOk.l0:Nat→List ByteArray→List ByteArray→Int→Int→Option (Bool)
 | 0,_,_,_,_=>none
 | k+1,x3,x8,x9,x10=>if x10 < x9 then (if 0≤x10 then (if x10 < (x8.length:Int) then ((impl_isLabel.f (rdOf ByteArray.empty x8 x10)).bind fun t107=>(if t107=true then (impl_DomainOk.l0 k x3 x8 x9 (wrap64 (x10+1))) else (some false))) else (none)) else (none)) else (some (decide ((x3.length:Int)≤3)))
def impl_DomainOk.f (k:Nat) (a0:ByteArray):Option (Bool):=(strings_Split.f a0 (⟨#[46]⟩:ByteArray)).bind fun t103=>(impl_DomainOk.l0 k t103 t103 (t103.length:Int) 0)
set_option maxHeartbeats 8000000 in
set_option maxRecDepth 100000 in
theorem impl_DomainOk.calls (k:Nat) (a0:ByteArray) (r:Bool) (w:World) (hG:GOK w) (h:impl_DomainOk.f k a0=some r) :
 Calls Tryd.prog 63 #[.string a0] w fun e w'=>e=.returned (.bool r)∧Below w.heap.size w w':=by
 have HG:=zA hG
 clear hG
 have HB:=zA (Below.refl w.heap.size w)
 have H:((strings_Split.f a0 bz5).bind fun t103=>(impl_DomainOk.l0 k t103 t103 (t103.length:Int) 0))=some r:=h
 clear h
 replace H:=Option.bind_eq_some_iff.mp H
 obtain ⟨t103,A20,H⟩:=H
 replace H:(impl_DomainOk.l0 k t103 t103 (t103.length:Int) 0)=some r:=H
 have A2:=zA A20
 clear A20
 have H':=zA H
 clear H
 go_enter Tryd.func63,Tryd.ntmps63
 go_wp2_with (first|((with_reducible refine zq19 (f:=107) rfl ?_);refine goesL_ (some 7) rfl rfl Tryd.func107 (by kernel_rfl) rfl #[.string a0,.string bz5] rfl (by (try simp only [zL3,zL4,zL5]);first|done|rfl|(simp only [zL6,zL7];rfl)) ?_;(with_reducible refine (strings_Split.calls a0 bz5 t103 _ ?side1 A2.out).mono ?_);(case side1=>first|(with_reducible exact HG.out)|((with_reducible repeat (first|exact HG.out|apply GOK.drewN|apply GOK.drew));done)|exact GOK.below HG.out (by repeat (first|(with_reducible first|exact HB.out|apply zq4|apply zq0|apply zq3)|exact HB.out)));rintro e w3 ⟨v104,rfl,ho0,hb⟩;refine ⟨_,rfl,?_⟩;have n0_:=zA (Kd.z10 ho0 (zq14 (by repeat (first|(with_reducible first|exact HB.out|apply zq4|apply zq0|apply zq3)|exact HB.out))));have n1_:=zA (zq11 (by repeat (first|(with_reducible first|exact HB.out|apply zq4|apply zq0|apply zq3)|exact HB.out)) hb);clear HB;have HO105:=n0_;have HB:=n1_;clear n0_ n1_;(try clear hb);(try clear ho0);obtain ⟨Ao4,co4,eo4⟩:=Kd.z13 HO105.out;subst eo4))
 go_loopg [10] k (fun kq v10 w'=>∃ (x10_1:Int),v10=.int .i64 x10_1∧Aside0 (impl_DomainOk.l0 kq t103 t103 (t103.length:Int) x10_1=some r)∧Aside0 (kq≤k)∧Aside0 (Kd.R Kd.string 9 w' w.heap.size (fun _=>True) (.slice Ao4 t103.length co4) t103)∧Aside0 (Kd.R Kd.string 9 w' w.heap.size (fun _=>True) (.slice Ao4 t103.length co4) t103)∧Aside0 (Below w.heap.size w w'))
 case atStart=>exact ⟨(0),(by first|rfl|(simp;done)|(simp [*];done)),H',⟨Nat.le_refl _⟩,⟨by (with_reducible repeat (first|apply Kd.z4|apply Kd.z7|apply Kd.z6));exact HO105.out⟩,⟨by (with_reducible repeat (first|apply Kd.z4|apply Kd.z7|apply Kd.z6));exact HO105.out⟩,⟨by repeat (first|(with_reducible first|exact HB.out|apply zq4|apply zq0|apply zq3)|exact HB.out)⟩⟩
 case round =>
  clear H'
  try clear c1
  try clear p2
  obtain ⟨x10_1,rfl,HA,HK1,HO_3,HO_8,HB⟩:=hrel
  cases gk with
  | zero=>exact absurd HA.out (by simp [impl_DomainOk.l0])
  | succ k1 =>
   have H:=HA.out
   clear HA
   simp only [impl_DomainOk.l0] at H
   by_cases c5:x10_1 < (t103.length:Int)
   ·rw [if_pos c5] at H
    have c5b0:decide (x10_1 < (t103.length:Int))=true:=decide_eq_true c5
    clear c5
    by_cases c6:0≤x10_1
    ·rw [if_pos c6] at H
     have c6b0:decide (0≤x10_1)=true:=decide_eq_true c6
     clear c6
     by_cases c7:x10_1 < (t103.length:Int)
     ·rw [if_pos c7] at H
      have c7b0:decide (x10_1 < (t103.length:Int))=true:=decide_eq_true c7
      clear c7
      replace H:=Option.bind_eq_some_iff.mp H
      obtain ⟨t107,A80,H⟩:=H
      replace H:(if t107=true then (impl_DomainOk.l0 k1 t103 t103 (t103.length:Int) (wrap64 (x10_1+1))) else (some false))=some r:=H
      have A8:=zA A80
      clear A80
      by_cases c9:t107=true
      ·subst c9
       have H1:(impl_DomainOk.l0 k1 t103 t103 (t103.length:Int) (wrap64 (x10_1+1)))=some r:=by rw [if_pos rfl] at H;exact H
       clear H
       have H:=H1
       clear H1
       have H':=zA H
       clear H
       have p106:0≤(x10_1:Int):=of_decide_eq_true (by first|(with_reducible assumption)|assumption)
       have q106:x10_1 < (t103.length:Int):=of_decide_eq_true (by first|(with_reducible assumption)|assumption)
       obtain ⟨ad106,e106,hx106_0⟩:=Kd.at_string (Kd.z12 HO_8.out).2.2 x10_1 p106 q106
       cases e106
       replace p106:=eq_true p106
       replace q106:=eq_true q106
       go_wp2_with (first|((with_reducible refine zq19 (f:=94) rfl ?_);refine goesL_ (some 15) rfl rfl Tryd.func94 (by kernel_rfl) rfl #[.string (rdOf ByteArray.empty t103 x10_1)] rfl (by (try simp only [zL3,zL4,zL5]);first|done|rfl|(simp only [zL6,zL7];rfl)) ?_;(with_reducible refine (impl_isLabel.calls (rdOf ByteArray.empty t103 x10_1) true _ A8.out).mono ?_);rintro e w10 ⟨rfl,hb⟩;refine ⟨_,rfl,?_⟩;have n0_:=zA (Kd.z5 (by (with_reducible repeat (first|apply Kd.z4|apply Kd.z7|apply Kd.z6));exact HO_3.out) hb);have n1_:=zA (Kd.z5 (by (with_reducible repeat (first|apply Kd.z4|apply Kd.z7|apply Kd.z6));exact HO_8.out) hb);have n2_:=zA (zq11 (by repeat (first|(with_reducible first|exact HB.out|apply zq4|apply zq0|apply zq3)|exact HB.out)) hb);clear HO_3;clear HO_8;clear HB;have HO_3:=n0_;have HO_8:=n1_;have HB:=n2_;clear n0_ n1_ n2_;(try clear hb)))
       go_roundg k1
       case measure=>have:=HK1.out;omega
       case rel=>exact ⟨(wrap64 (x10_1+1)),(by first|rfl|(simp;done)|(simp [*];done)),H',⟨by have:=HK1.out;omega⟩,⟨by (with_reducible repeat (first|apply Kd.z4|apply Kd.z7|apply Kd.z6));exact HO_3.out⟩,⟨by (with_reducible repeat (first|apply Kd.z4|apply Kd.z7|apply Kd.z6));exact HO_8.out⟩,⟨by repeat (first|(with_reducible first|exact HB.out|apply zq4|apply zq0|apply zq3)|exact HB.out)⟩⟩
      ·replace c9:=Bool.eq_false_iff.mpr c9
       subst c9
       have H1:(some false)=some r:=by rw [if_neg (show ¬ (false=true) by decide)] at H;exact H
       clear H
       have H:=H1
       clear H1
       obtain rfl:=Option.some.inj H
       have p106:0≤(x10_1:Int):=of_decide_eq_true (by first|(with_reducible assumption)|assumption)
       have q106:x10_1 < (t103.length:Int):=of_decide_eq_true (by first|(with_reducible assumption)|assumption)
       obtain ⟨ad106,e106,hx106_0⟩:=Kd.at_string (Kd.z12 HO_8.out).2.2 x10_1 p106 q106
       cases e106
       replace p106:=eq_true p106
       replace q106:=eq_true q106
       go_wp2_with (first|((with_reducible refine zq19 (f:=94) rfl ?_);refine goesL_ (some 15) rfl rfl Tryd.func94 (by kernel_rfl) rfl #[.string (rdOf ByteArray.empty t103 x10_1)] rfl (by (try simp only [zL3,zL4,zL5]);first|done|rfl|(simp only [zL6,zL7];rfl)) ?_;(with_reducible refine (impl_isLabel.calls (rdOf ByteArray.empty t103 x10_1) false _ A8.out).mono ?_);rintro e w11 ⟨rfl,hb⟩;refine ⟨_,rfl,?_⟩;have n0_:=zA (Kd.z5 (by (with_reducible repeat (first|apply Kd.z4|apply Kd.z7|apply Kd.z6));exact HO_3.out) hb);have n1_:=zA (Kd.z5 (by (with_reducible repeat (first|apply Kd.z4|apply Kd.z7|apply Kd.z6));exact HO_8.out) hb);have n2_:=zA (zq11 (by repeat (first|(with_reducible first|exact HB.out|apply zq4|apply zq0|apply zq3)|exact HB.out)) hb);clear HO_3;clear HO_8;clear HB;have HO_3:=n0_;have HO_8:=n1_;have HB:=n2_;clear n0_ n1_ n2_;(try clear hb)))
       go_ret
       exact ⟨by first|rfl|(simp [zq16,zq17]<;>rfl)|(simp [*,zq16,zq17]<;>rfl),by repeat (first|(with_reducible first|exact HB.out|apply zq4|apply zq0|apply zq3)|exact HB.out)⟩
     ·rw [if_neg c7] at H
      exact absurd H (by simp)
    ·rw [if_neg c6] at H
     exact absurd H (by simp)
   ·rw [if_neg c5] at H
    have c5b0:decide (x10_1 < (t103.length:Int))=false:=decide_eq_false c5
    clear c5
    obtain rfl:=Option.some.inj H
    go_wp2
    go_ret
    exact ⟨by first|rfl|(simp [zq16,zq17]<;>rfl)|(simp [*,zq16,zq17]<;>rfl),by repeat (first|(with_reducible first|exact HB.out|apply zq4|apply zq0|apply zq3)|exact HB.out)⟩
def impl_Addr_null.f (a0_0:ByteArray) (a0_1:ByteArray):Option (Bool):=some (a0_0.toList==([]:List UInt8) && (a0_1.toList==([]:List UInt8)))
set_option maxHeartbeats 8000000 in
set_option maxRecDepth 100000 in
theorem impl_Addr_null.calls (a0_0:ByteArray) (a0_1:ByteArray) (r:Bool) (w:World) (h:impl_Addr_null.f a0_0 a0_1=some r) :
 Calls Tryd.prog 72 #[.agg #[.string a0_0,.string a0_1]] w fun e w'=>e=.returned (.bool r)∧Below w.heap.size w w':=by
 have hu30:=Tryd.underlying30
 have HB:=zA (Below.refl w.heap.size w)
 have H:(some (a0_0.toList==([]:List UInt8) && (a0_1.toList==([]:List UInt8))))=some r:=h
 clear h
 obtain rfl:=Option.some.inj H
 go_enter Tryd.func72,Tryd.ntmps72
 go_wp2_with (first|((with_reducible refine zq21 (N:=1) rfl ?_);refine zq23 ?hg (N:=1) ?hd (cs:=#[.string a0_0,.string a0_1]) (t:=30) ?hr ?_;(case hd=>rfl);(case hg=>rfl);(case hr=>first|(go_simp;done)|(go_simp;rfl));intro gb101 hg w2 hbox hb;have n0_:=zA (zq11 (by repeat (first|(with_reducible first|exact HB.out|apply zq4|apply zq0|apply zq3)|exact HB.out)) hb);have n1_:=zA (hbox);have n2_:=zA ((by rw [hg];exact (zq14 (by repeat (first|(with_reducible first|exact HB.out|apply zq4|apply zq0|apply zq3)|exact HB.out))):w.heap.size≤gb101));have n3_:=zA ((by rw [hg];exact (zq14 (by repeat (first|(with_reducible first|exact HB.out|apply zq4|apply zq0|apply zq3)|exact HB.out))):w.heap.size≤gb101));clear HB;have HB:=n0_;have BK101:=n1_;have GW101:=n2_;have GE101:=n3_;clear n0_ n1_ n2_ n3_;clear hb hbox hg;have hcz3_0:w2.cell? ⟨gb101,0,none⟩=some (.string a0_0):=zq1 BK101.out 0;have hcz3_1:w2.cell? ⟨gb101,1,none⟩=some (.string a0_1):=zq1 BK101.out 1;have hfz3_0:=zq7 BK101.out 0;have hfz3_1:=zq7 BK101.out 1))
 go_ret
 exact ⟨by first|rfl|(simp [zq16,zq17]<;>rfl)|(simp [*,zq16,zq17]<;>rfl),by repeat (first|(with_reducible first|exact HB.out|apply zq4|apply zq0|apply zq3|refine zq2 ?_ GE101.out)|exact HB.out)⟩
def impl_AddrOk.f (k:Nat) (a0_0:ByteArray) (a0_1:ByteArray):Option (Bool):=(impl_isLabel.f a0_0).bind fun t102=>(if t102=true then ((impl_DomainOk.f k a0_1).bind fun t103=>(some t103)) else (some false))
set_option maxHeartbeats 8000000 in
set_option maxRecDepth 100000 in
theorem impl_AddrOk.calls (k:Nat) (a0_0:ByteArray) (a0_1:ByteArray) (r:Bool) (w:World) (hG:GOK w) (h:impl_AddrOk.f k a0_0 a0_1=some r) :
 Calls Tryd.prog 47 #[.agg #[.string a0_0,.string a0_1]] w fun e w'=>e=.returned (.bool r)∧Below w.heap.size w w':=by
 have hu30:=Tryd.underlying30
 have HG:=zA hG
 clear hG
 have HB:=zA (Below.refl w.heap.size w)
 have H:((impl_isLabel.f a0_0).bind fun t102=>(if t102=true then ((impl_DomainOk.f k a0_1).bind fun t103=>(some t103)) else (some false)))=some r:=h
 clear h
 replace H:=Option.bind_eq_some_iff.mp H
 obtain ⟨t102,A20,H⟩:=H
 replace H:(if t102=true then ((impl_DomainOk.f k a0_1).bind fun t103=>(some t103)) else (some false))=some r:=H
 have A2:=zA A20
 clear A20
 by_cases c3:t102=true
 ·subst c3
  have H1:((impl_DomainOk.f k a0_1).bind fun t103=>(some t103))=some r:=by rw [if_pos rfl] at H;exact H
  clear H
  have H:=H1
  clear H1
  replace H:=Option.bind_eq_some_iff.mp H
  obtain ⟨t103,A40,H⟩:=H
  replace H:(some t103)=some r:=H
  have A4:=zA A40
  clear A40
  obtain rfl:=Option.some.inj H
  go_enter Tryd.func47,Tryd.ntmps47
  go_wp2_with (first|((with_reducible refine zq21 (N:=1) rfl ?_);refine zq23 ?hg (N:=1) ?hd (cs:=#[.string a0_0,.string a0_1]) (t:=30) ?hr ?_;(case hd=>rfl);(case hg=>rfl);(case hr=>first|(go_simp;done)|(go_simp;rfl));intro gb101 hg w5 hbox hb;have n0_:=zA (zq11 (by repeat (first|(with_reducible first|exact HB.out|apply zq4|apply zq0|apply zq3)|exact HB.out)) hb);have n1_:=zA (hbox);have n2_:=zA ((by rw [hg];exact (zq14 (by repeat (first|(with_reducible first|exact HB.out|apply zq4|apply zq0|apply zq3)|exact HB.out))):w.heap.size≤gb101));have n3_:=zA ((by rw [hg];exact (zq14 (by repeat (first|(with_reducible first|exact HB.out|apply zq4|apply zq0|apply zq3)|exact HB.out))):w.heap.size≤gb101));clear HB;have HB:=n0_;have BK101:=n1_;have GW101:=n2_;have GE101:=n3_;clear n0_ n1_ n2_ n3_;clear hb hbox hg;have hcz6_0:w5.cell? ⟨gb101,0,none⟩=some (.string a0_0):=zq1 BK101.out 0;have hcz6_1:w5.cell? ⟨gb101,1,none⟩=some (.string a0_1):=zq1 BK101.out 1;have hfz6_0:=zq7 BK101.out 0;have hfz6_1:=zq7 BK101.out 1)|((with_reducible refine zq19 (f:=94) rfl ?_);refine goesL_ (some 5) rfl rfl Tryd.func94 (by kernel_rfl) rfl #[.string a0_0] rfl (by (try simp only [zL3,zL4,zL5]);first|done|rfl|(simp only [zL6,zL7];rfl)) ?_;(with_reducible refine (impl_isLabel.calls a0_0 true _ A2.out).mono ?_);rintro e w7 ⟨rfl,hb⟩;refine ⟨_,rfl,?_⟩;have n0_:=zA (zq13 (by (with_reducible repeat (first|refine zq6 ?_ _|refine zq8 ?_|refine zq5 ?_ _));exact BK101.out) hb);have n1_:=zA (zq11 (by repeat (first|(with_reducible first|exact HB.out|apply zq4|apply zq0|apply zq3|refine zq2 ?_ GE101.out)|exact HB.out)) hb);clear BK101;clear HB;have BK101:=n0_;have HB:=n1_;clear n0_ n1_;(try clear hb);have hcz8_0:w7.cell? ⟨gb101,0,none⟩=some (.string a0_0):=zq1 BK101.out 0;have hcz8_1:w7.cell? ⟨gb101,1,none⟩=some (.string a0_1):=zq1 BK101.out 1;have hfz8_0:=zq7 BK101.out 0;have hfz8_1:=zq7 BK101.out 1)|(go_at_call 63;(with_reducible refine (impl_DomainOk.calls k a0_1 t103 _ ?side1 A4.out).mono ?_);(case side1=>first|(with_reducible exact HG.out)|((with_reducible repeat (first|exact HG.out|apply GOK.drewN|apply GOK.drew));done)|exact GOK.below HG.out (by repeat (first|(with_reducible first|exact HB.out|apply zq4|apply zq0|apply zq3|refine zq2 ?_ GE101.out)|exact HB.out)));rintro e w9 ⟨rfl,hb⟩;have n0_:=zA (zq13 (by (with_reducible repeat (first|refine zq6 ?_ _|refine zq8 ?_|refine zq5 ?_ _));exact BK101.out) hb);have n1_:=zA (zq11 (by repeat (first|(with_reducible first|exact HB.out|apply zq4|apply zq0|apply zq3|refine zq2 ?_ GE101.out)|exact HB.out)) hb);clear BK101;clear HB;have BK101:=n0_;have HB:=n1_;clear n0_ n1_;(try clear hb)))
  go_ret
  exact ⟨by first|rfl|(simp [zq16,zq17]<;>rfl)|(simp [*,zq16,zq17]<;>rfl),by repeat (first|(with_reducible first|exact HB.out|apply zq4|apply zq0|apply zq3|refine zq2 ?_ GE101.out)|exact HB.out)⟩
 ·replace c3:=Bool.eq_false_iff.mpr c3
  subst c3
  have H1:(some false)=some r:=by rw [if_neg (show ¬ (false=true) by decide)] at H;exact H
  clear H
  have H:=H1
  clear H1
  obtain rfl:=Option.some.inj H
  go_enter Tryd.func47,Tryd.ntmps47
  go_wp2_with (first|((with_reducible refine zq21 (N:=1) rfl ?_);refine zq23 ?hg (N:=1) ?hd (cs:=#[.string a0_0,.string a0_1]) (t:=30) ?hr ?_;(case hd=>rfl);(case hg=>rfl);(case hr=>first|(go_simp;done)|(go_simp;rfl));intro gb101 hg w10 hbox hb;have n0_:=zA (zq11 (by repeat (first|(with_reducible first|exact HB.out|apply zq4|apply zq0|apply zq3)|exact HB.out)) hb);have n1_:=zA (hbox);have n2_:=zA ((by rw [hg];exact (zq14 (by repeat (first|(with_reducible first|exact HB.out|apply zq4|apply zq0|apply zq3)|exact HB.out))):w.heap.size≤gb101));have n3_:=zA ((by rw [hg];exact (zq14 (by repeat (first|(with_reducible first|exact HB.out|apply zq4|apply zq0|apply zq3)|exact HB.out))):w.heap.size≤gb101));clear HB;have HB:=n0_;have BK101:=n1_;have GW101:=n2_;have GE101:=n3_;clear n0_ n1_ n2_ n3_;clear hb hbox hg;have hcz11_0:w10.cell? ⟨gb101,0,none⟩=some (.string a0_0):=zq1 BK101.out 0;have hcz11_1:w10.cell? ⟨gb101,1,none⟩=some (.string a0_1):=zq1 BK101.out 1;have hfz11_0:=zq7 BK101.out 0;have hfz11_1:=zq7 BK101.out 1)|((with_reducible refine zq19 (f:=94) rfl ?_);refine goesL_ (some 5) rfl rfl Tryd.func94 (by kernel_rfl) rfl #[.string a0_0] rfl (by (try simp only [zL3,zL4,zL5]);first|done|rfl|(simp only [zL6,zL7];rfl)) ?_;(with_reducible refine (impl_isLabel.calls a0_0 false _ A2.out).mono ?_);rintro e w12 ⟨rfl,hb⟩;refine ⟨_,rfl,?_⟩;have n0_:=zA (zq13 (by (with_reducible repeat (first|refine zq6 ?_ _|refine zq8 ?_|refine zq5 ?_ _));exact BK101.out) hb);have n1_:=zA (zq11 (by repeat (first|(with_reducible first|exact HB.out|apply zq4|apply zq0|apply zq3|refine zq2 ?_ GE101.out)|exact HB.out)) hb);clear BK101;clear HB;have BK101:=n0_;have HB:=n1_;clear n0_ n1_;(try clear hb)))
  go_ret
  exact ⟨by first|rfl|(simp [zq16,zq17]<;>rfl)|(simp [*,zq16,zq17]<;>rfl),by repeat (first|(with_reducible first|exact HB.out|apply zq4|apply zq0|apply zq3|refine zq2 ?_ GE101.out)|exact HB.out)⟩
end Go.Proofs.YthkibaldmjfmmaaDoor.Q
