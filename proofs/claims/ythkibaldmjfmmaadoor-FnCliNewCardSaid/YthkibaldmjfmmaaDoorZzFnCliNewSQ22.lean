/- Of a text of ours what this claim needs. -/
import Derived.Test.YthkibaldmjfmmaaDoorZzFnCliNewSQ0
import Derived.Test.YthkibaldmjfmmaaDoorZzFnCliNewSQ7
import Derived.Test.YthkibaldmjfmmaaDoorZzFnCliNewSHClone
namespace Go.Proofs.YthkibaldmjfmmaaDoor.Q
open Go.RowKit Go.Proofs.YthkibaldmjfmmaaDoorW.PrintWords Go.Proofs.YthkibaldmjfmmaaDoorW.PrintLast Go.Proofs.YthkibaldmjfmmaaDoorW.PrintMore
attribute [local go_sem] max2_int min2_int max_two min_two max_three min_three max_four min_four
set_option linter.unusedVariables false
set_option linter.unusedSimpArgs false
def impl_Cli_copied.f (a0_0:ByteArray) (a0_1:ByteArray) (a0_2:ByteArray) (l0_3:List (S30)) (l0_4:List ByteArray) (a0_5:Int) (a0_6:Int) (l0_7:List Int):Option (ByteArray × ByteArray × ByteArray × (List (S30)) × List ByteArray × Int × Int × List Int):=(impl_Mail_copied.f a0_1 a0_2 l0_3 l0_4).bind fun bt163=>((slices_Clone_int_int.f l0_7).bind fun t171=>(some (a0_0,bt163.1,bt163.2.1,bt163.2.2.1,bt163.2.2.2,a0_5,a0_6,t171)))
def impl_Cli_copied.T1:Bool × List (List Nat × List Nat):=(true,[([],[]),([0],[0]),([1],[1]),([],[]),([3],[3]),([4,2],[4]),([0,1,2,3,4],[]),([6,2,5,0,1,2,3,4],[2,6]),([0,1,2,3,4,5,6,7],[]),([8,5,7,0,1,2,3,4,5,6,7],[5,8])])
def impl_Cli_copied.B1:List Nat:=[0,1,3,0,8,31,31,127,255,511]
theorem impl_Cli_copied.tab1:rtab .any (opsOf Tryd.f86 1)=impl_Cli_copied.T1:=by kernel_rfl
theorem impl_Cli_copied.bits1:waitsOk impl_Cli_copied.T1.2 impl_Cli_copied.B1=true:=by kernel_rfl
set_option maxHeartbeats 8000000 in
set_option maxRecDepth 100000 in
theorem impl_Cli_copied.calls (a0_0:ByteArray) (a0_1:ByteArray) (a0_2:ByteArray) (A0_3:Option Addr) (c0_3:Nat) (l0_3:List (S30)) (A0_4:Option Addr) (c0_4:Nat) (l0_4:List ByteArray) (a0_5:Int) (a0_6:Int) (A0_7:Option Addr) (c0_7:Nat) (l0_7:List Int) (r1:ByteArray) (r2:ByteArray) (r3:ByteArray) (r4:List (S30)) (r5:List ByteArray) (r6:Int) (r7:Int) (r8:List Int) (w:World) (hr0_3:Kd.C k30 w A0_3 l0_3.length l0_3) (hc0_3:l0_3.length≤c0_3) (hr0_4:Kd.C Kd.string w A0_4 l0_4.length l0_4) (hc0_4:l0_4.length≤c0_4) (hr0_7:Kd.C (Kd.int .i64) w A0_7 l0_7.length l0_7) (hc0_7:l0_7.length≤c0_7) (h:impl_Cli_copied.f a0_0 a0_1 a0_2 l0_3 l0_4 a0_5 a0_6 l0_7=some (r1,r2,r3,r4,r5,r6,r7,r8)) :
 Calls Tryd.prog 86 #[.agg #[.string a0_0,.string a0_1,.string a0_2,.slice A0_3 l0_3.length c0_3,.slice A0_4 l0_4.length c0_4,.int .i64 a0_5,.int .i64 a0_6,.slice A0_7 l0_7.length c0_7]] w fun e w'=>∃ v3_ v4_ v7_:Value,e=.returned (.agg #[.string r1,.string r2,.string r3,v3_,v4_,.int .i64 r6,.int .i64 r7,v7_])∧Kd.R k30 30 w' w.heap.size (fun _=>True) v3_ r4∧Kd.R Kd.string 9 w' w.heap.size (fun _=>True) v4_ r5∧Kd.R (Kd.int .i64) 3 w' w.heap.size (fun _=>True) v7_ r8∧Below w.heap.size w w':=by
 have hu67:=Tryd.underlying67
 have hu33:=Tryd.underlying33
 have HR0_3:=zA hr0_3
 have HC0_3:=zA hc0_3
 clear hr0_3 hc0_3
 have HR0_4:=zA hr0_4
 have HC0_4:=zA hc0_4
 clear hr0_4 hc0_4
 have HR0_7:=zA hr0_7
 have HC0_7:=zA hc0_7
 clear hr0_7 hc0_7
 have HB:=zA (Below.refl w.heap.size w)
 have H:((impl_Mail_copied.f a0_1 a0_2 l0_3 l0_4).bind fun bt163=>((slices_Clone_int_int.f l0_7).bind fun t171=>(some (a0_0,bt163.1,bt163.2.1,bt163.2.2.1,bt163.2.2.2,a0_5,a0_6,t171))))=some (r1,r2,r3,r4,r5,r6,r7,r8):=h
 clear h
 replace H:=Option.bind_eq_some_iff.mp H
 obtain ⟨⟨t163,t164,t165,t168⟩,A20,H⟩:=H
 replace H:((slices_Clone_int_int.f l0_7).bind fun t171=>(some (a0_0,t163,t164,t165,t168,a0_5,a0_6,t171)))=some (r1,r2,r3,r4,r5,r6,r7,r8):=H
 have A2:=zA A20
 clear A20
 replace H:=Option.bind_eq_some_iff.mp H
 obtain ⟨t171,A30,H⟩:=H
 replace H:(some (a0_0,t163,t164,t165,t168,a0_5,a0_6,t171))=some (r1,r2,r3,r4,r5,r6,r7,r8):=H
 have A3:=zA A30
 clear A30
 simp only [Option.some.injEq,Prod.mk.injEq] at H
 obtain ⟨rfl,rfl,rfl,rfl,rfl,rfl,rfl,rfl⟩:=H
 go_enter Tryd.func86,Tryd.ntmps86
 try go_wp2_with (first|((with_reducible refine zq21 (N:=1) rfl ?_);refine zq23 ?hg (N:=1) ?hd (cs:=#[.string a0_0,.string a0_1,.string a0_2,.slice A0_3 l0_3.length c0_3,.slice A0_4 l0_4.length c0_4,.int .i64 a0_5,.int .i64 a0_6,.slice A0_7 l0_7.length c0_7]) (t:=67) ?hr ?_;(case hd=>rfl);(case hg=>rfl);(case hr=>first|(go_simp;done)|(go_simp;rfl));intro gb161 hg w4 hbox hb;have n0_:=zA (zq11 (by repeat (first|(with_reducible first|exact HB.out|apply zq4|apply zq0|apply zq3)|exact HB.out)) hb);have n1_:=zA (hbox);have n2_:=zA ((by rw [hg];exact (zq14 (by repeat (first|(with_reducible first|exact HB.out|apply zq4|apply zq0|apply zq3)|exact HB.out))):w.heap.size≤gb161));have n3_:=zA ((by rw [hg];exact (zq14 (by repeat (first|(with_reducible first|exact HB.out|apply zq4|apply zq0|apply zq3)|exact HB.out))):w.heap.size≤gb161));clear HB;have HB:=n0_;have BK161:=n1_;have GW161:=n2_;have GE161:=n3_;clear n0_ n1_ n2_ n3_;clear hb hbox hg)|((with_reducible refine zq21 (N:=2) rfl ?_);refine zq23 ?hg (N:=2) ?hd (cs:=#[.string bz0,.string bz0,.string bz0,.slice none 0 0,.slice none 0 0,.int .i64 0,.int .i64 0,.slice none 0 0]) (t:=67) ?hr ?_;(case hd=>rfl);(case hg=>rfl);(case hr=>first|(go_simp;done)|(go_simp;rfl));intro gb162 hg w5 hbox hb;have n0_:=zA (zq13 (by (with_reducible repeat (first|refine zq6 ?_ _|refine zq8 ?_|refine zq5 ?_ _));exact BK161.out) hb);have n1_:=zA (zq11 (by repeat (first|(with_reducible first|exact HB.out|apply zq4|apply zq0|apply zq3|refine zq2 ?_ GE161.out)|exact HB.out)) hb);have n2_:=zA (hbox);have n3_:=zA ((by rw [hg];exact (zq14 (by repeat (first|(with_reducible first|exact HB.out|apply zq4|apply zq0|apply zq3|refine zq2 ?_ GE161.out)|exact HB.out))):w.heap.size≤gb162));have n4_:=zA ((by rw [hg];exact (zq14 (by repeat (first|(with_reducible first|exact HB.out|apply zq4|apply zq0|apply zq3|refine zq2 ?_ GE161.out)|exact HB.out))):w.heap.size≤gb162));have n5_:=zA ((by rw [hg];exact Nat.ne_of_lt (zq25 (g:=gb161) (o:=.cells #[.string a0_0,.string a0_1,.string a0_2,.slice A0_3 l0_3.length c0_3,.slice A0_4 l0_4.length c0_4,.int .i64 a0_5,.int .i64 a0_6,.slice A0_7 l0_7.length c0_7] 67 (0,0)) (by (with_reducible repeat (first|refine zq6 ?_ _|refine zq8 ?_|refine zq5 ?_ _));exact BK161.out)):gb161≠gb162));have n6_:=zA ((by rw [hg];exact Nat.ne_of_gt (zq25 (g:=gb161) (o:=.cells #[.string a0_0,.string a0_1,.string a0_2,.slice A0_3 l0_3.length c0_3,.slice A0_4 l0_4.length c0_4,.int .i64 a0_5,.int .i64 a0_6,.slice A0_7 l0_7.length c0_7] 67 (0,0)) (by (with_reducible repeat (first|refine zq6 ?_ _|refine zq8 ?_|refine zq5 ?_ _));exact BK161.out)):gb162≠gb161));clear BK161;clear HB;have BK161:=n0_;have HB:=n1_;have BK162:=n2_;have GW162:=n3_;have GE162:=n4_;have NB161_162:=n5_;have NB162_161:=n6_;clear n0_ n1_ n2_ n3_ n4_ n5_ n6_;clear hb hbox hg))
 have n0_:=zA (zq8 BK161.out)
 have n1_:=zA (zq8 BK162.out)
 have n2_:=zA (zq3 HB.out)
 clear BK161
 clear BK162
 clear HB
 have BK161:=n0_
 have BK162:=n1_
 have HB:=n2_
 clear n0_ n1_ n2_
 refine start_ (n:=10) (S:=fun w'=>w'.cell? ⟨gb161,0,none⟩=some (.string a0_0)∧w'.cell? ⟨gb161,1,none⟩=some (.string a0_1)∧w'.cell? ⟨gb161,2,none⟩=some (.string a0_2)∧w'.cell? ⟨gb161,3,none⟩=some (.slice A0_3 l0_3.length c0_3)∧w'.cell? ⟨gb161,4,none⟩=some (.slice A0_4 l0_4.length c0_4)∧w'.cell? ⟨gb161,5,none⟩=some (.int .i64 a0_5)∧w'.cell? ⟨gb161,6,none⟩=some (.int .i64 a0_6)∧w'.cell? ⟨gb161,7,none⟩=some (.slice A0_7 l0_7.length c0_7)) (ds:=[7,9]) #[false,false,false,false,false,false,false,false,false,false] (by kernel_rfl) rfl rfl ⟨zq1 BK161.out 0,zq1 BK161.out 1,zq1 BK161.out 2,zq1 BK161.out 3,zq1 BK161.out 4,zq1 BK161.out 5,zq1 BK161.out 6,zq1 BK161.out 7⟩ (fun hHeld=>?_);refine with_tabW impl_Cli_copied.tab1 impl_Cli_copied.bits1 (fun HT_ HW_=>?_)
 generalize w5.drew=w6 at BK161 BK162 HB hHeld ⊢
 refine pure_ (i:=0) (N:=some 3) (v:=?_) (a':=?_) #[true,false,false,false,false,false,false,false,false,false] rfl rfl (any_of HT_.out (by kernel_rfl)) (fun _ _ _ h=>h) (Or.inl ⟨by rfl,?_⟩) ?_ ?_
 rotate_left
 ·intro w'
  go_simp
  with_reducible rfl
 rotate_left
 ·simp only [Act.put,zL0,zL1,zL2,i64_w,i32_w]
  rfl
 refine pure_ (i:=3) (N:=some 6) (v:=?_) (a':=?_) #[true,false,false,true,false,false,false,false,false,false] rfl rfl (any_of HT_.out (by kernel_rfl)) (fun _ _ _ h=>h) (Or.inl ⟨by rfl,?_⟩) ?_ ?_
 rotate_left
 ·intro w'
  go_simp
  with_reducible rfl
 rotate_left
 ·simp only [Act.put,zL0,zL1,zL2,i64_w,i32_w]
  rfl
 refine take_ (i:=1) (N:=some 4) (v:=?_) (a':=?_) #[true,true,false,true,false,false,false,false,false,false] rfl rfl (take_ofW HT_.out HW_.out (by kernel_rfl)) (fun _ _ _ h=>h) (Or.inl ⟨by rfl,?_⟩) hHeld ?_ ?_
 rotate_left
 ·rintro w' ⟨s0,s1,s2,s3,s4,s5,s6,s7⟩
  go_simp
  with_reducible rfl
 rotate_left
 ·simp only [Act.put,zL0,zL1,zL2,i64_w,i32_w]
  rfl
 refine take_ (i:=4) (N:=some 7) (v:=?_) (a':=?_) #[true,true,false,true,true,false,false,false,false,false] rfl rfl (take_ofW HT_.out HW_.out (by kernel_rfl)) (fun _ _ _ h=>h) (Or.inl ⟨by rfl,?_⟩) hHeld ?_ ?_
 rotate_left
 ·rintro w' ⟨s0,s1,s2,s3,s4,s5,s6,s7⟩
  go_simp
  with_reducible rfl
 rotate_left
 ·simp only [Act.put,zL0,zL1,zL2,i64_w,i32_w]
  rfl
 refine one_ (i:=2) (N:=some 5) #[true,true,true,true,true,false,false,false,false,false] rfl rfl (one_of HT_.out (by kernel_rfl)) (by decide) (fun K hK=>?_)
 refine goes_ Tryd.func82 (by kernel_rfl) rfl #[.agg #[.string a0_1,.string a0_2,.slice A0_3 l0_3.length c0_3,.slice A0_4 l0_4.length c0_4]] (by rfl) rfl rfl (by (try simp only [zL3,zL4,zL5]);first|done|rfl|(simp only [zL6,zL7];rfl)) ?_
 with_reducible refine (impl_Mail_copied.calls a0_1 a0_2 _ _ l0_3 _ _ l0_4 t163 t164 t165 t168 _ ?side1 ?side2 ?side3 ?side4 A2.out).mono ?_
 (case side1=>repeat (first|exact (Kd.z1 HR0_3.out HB.out)|(with_reducible refine Kd.z0 ?_ _)|(with_reducible refine Kd.z3 ?_ _)|(with_reducible refine Kd.z2 ?_)))
 (case side2=>exact HC0_3.out)
 (case side3=>repeat (first|exact (Kd.z1 HR0_4.out HB.out)|(with_reducible refine Kd.z0 ?_ _)|(with_reducible refine Kd.z3 ?_ _)|(with_reducible refine Kd.z2 ?_)))
 (case side4=>exact HC0_4.out)
 rintro e w7 ⟨v166,v169,rfl,ho0,ho1,hb⟩
 refine ⟨_,rfl,?_⟩
 have n0_:=zA (Kd.z10 ho0 (zq14 (by repeat (first|(with_reducible first|exact HB.out|apply zq4|apply zq0|apply zq3|refine zq2 ?_ GE161.out|refine zq2 ?_ GE162.out)|exact HB.out))))
 have n1_:=zA (Kd.z10 ho1 (zq14 (by repeat (first|(with_reducible first|exact HB.out|apply zq4|apply zq0|apply zq3|refine zq2 ?_ GE161.out|refine zq2 ?_ GE162.out)|exact HB.out))))
 have n2_:=zA (zq13 (by (with_reducible repeat (first|refine zq6 ?_ _|refine zq8 ?_|refine zq5 ?_ _));exact BK161.out) hb)
 have n3_:=zA (zq13 (by (with_reducible repeat (first|refine zq6 ?_ _|refine zq8 ?_|refine zq5 ?_ _));exact BK162.out) hb)
 have n4_:=zA (zq11 (by repeat (first|(with_reducible first|exact HB.out|apply zq4|apply zq0|apply zq3|refine zq2 ?_ GE161.out|refine zq2 ?_ GE162.out)|exact HB.out)) hb)
 clear BK161
 clear BK162
 clear HB
 have HO167:=n0_
 have HO170:=n1_
 have BK161:=n2_
 have BK162:=n3_
 have HB:=n4_
 clear n0_ n1_ n2_ n3_ n4_
 (try clear hb)
 (try clear hk)
 (try clear ho0)
 (try clear ho1)
 refine hK.out _ _ ⟨zq1 BK161.out 0,zq1 BK161.out 1,zq1 BK161.out 2,zq1 BK161.out 3,zq1 BK161.out 4,zq1 BK161.out 5,zq1 BK161.out 6,zq1 BK161.out 7⟩ (fun hHeld=>?_)
 clear hK K
 refine norm_ (a':=?_) ?_ ?_
 rotate_left
 ·show Act.put _ (some 5) _=_
  simp only [Act.put,zL0,zL1,zL2,i64_w,i32_w]
  rfl
 refine pure_ (i:=6) (N:=some 9) (v:=?_) (a':=?_) #[true,true,true,true,true,false,true,false,false,false] rfl rfl (any_of HT_.out (by kernel_rfl)) (fun _ _ _ h=>h) (Or.inl ⟨by rfl,?_⟩) ?_ ?_
 rotate_left
 ·intro w'
  go_simp
  with_reducible rfl
 rotate_left
 ·simp only [Act.put,zL0,zL1,zL2,i64_w,i32_w]
  rfl
 refine one_ (i:=5) (N:=some 8) #[true,true,true,true,true,true,true,false,false,false] rfl rfl (one_of HT_.out (by kernel_rfl)) (by decide) (fun K hK=>?_)
 refine goes_ Tryd.func122 (by kernel_rfl) rfl #[.slice A0_7 l0_7.length c0_7] (by rfl) rfl rfl (by (try simp only [zL3,zL4,zL5]);first|done|rfl|(simp only [zL6,zL7];rfl)) ?_
 with_reducible refine (slices_Clone_int_int.calls _ _ l0_7 t171 _ ?side1 ?side2 A3.out).mono ?_
 (case side1=>repeat (first|exact (Kd.z1 HR0_7.out HB.out)|(with_reducible refine Kd.z0 ?_ _)|(with_reducible refine Kd.z3 ?_ _)|(with_reducible refine Kd.z2 ?_)))
 (case side2=>exact HC0_7.out)
 rintro e w8 ⟨v172,rfl,ho0,hb⟩
 refine ⟨_,rfl,?_⟩
 have n0_:=zA (Kd.z5 (by (with_reducible repeat (first|apply Kd.z4|apply Kd.z7|apply Kd.z6));exact HO167.out) hb)
 have n1_:=zA (Kd.z5 (by (with_reducible repeat (first|apply Kd.z4|apply Kd.z7|apply Kd.z6));exact HO170.out) hb)
 have n2_:=zA (Kd.z10 ho0 (zq14 (by repeat (first|(with_reducible first|exact HB.out|apply zq4|apply zq0|apply zq3|refine zq2 ?_ GE161.out|refine zq2 ?_ GE162.out)|exact HB.out))))
 have n3_:=zA (zq13 (by (with_reducible repeat (first|refine zq6 ?_ _|refine zq8 ?_|refine zq5 ?_ _));exact BK161.out) hb)
 have n4_:=zA (zq13 (by (with_reducible repeat (first|refine zq6 ?_ _|refine zq8 ?_|refine zq5 ?_ _));exact BK162.out) hb)
 have n5_:=zA (zq11 (by repeat (first|(with_reducible first|exact HB.out|apply zq4|apply zq0|apply zq3|refine zq2 ?_ GE161.out|refine zq2 ?_ GE162.out)|exact HB.out)) hb)
 clear HO167
 clear HO170
 clear BK161
 clear BK162
 clear HB
 have HO167:=n0_
 have HO170:=n1_
 have HO173:=n2_
 have BK161:=n3_
 have BK162:=n4_
 have HB:=n5_
 clear n0_ n1_ n2_ n3_ n4_ n5_
 (try clear hb)
 (try clear hk)
 (try clear ho0)
 obtain ⟨Ao11,co11,eo11⟩:=Kd.z13 HO167.out
 (first|subst eo11|(injection eo11 with f1_ f2_ f3_;have f4_:=f1_.symm;have f5_:=f3_.symm;clear f1_ f2_ f3_;subst f4_;subst f5_))
 obtain ⟨Ao13,co13,eo13⟩:=Kd.z13 HO170.out
 (first|subst eo13|(injection eo13 with f1_ f2_ f3_;have f4_:=f1_.symm;have f5_:=f3_.symm;clear f1_ f2_ f3_;subst f4_;subst f5_))
 obtain ⟨Ao15,co15,eo15⟩:=Kd.z13 HO173.out
 (first|subst eo15|(injection eo15 with f1_ f2_ f3_;have f4_:=f1_.symm;have f5_:=f3_.symm;clear f1_ f2_ f3_;subst f4_;subst f5_))
 refine hK.out _ _ ⟨zq1 BK161.out 0,zq1 BK161.out 1,zq1 BK161.out 2,zq1 BK161.out 3,zq1 BK161.out 4,zq1 BK161.out 5,zq1 BK161.out 6,zq1 BK161.out 7⟩ (fun hHeld=>?_)
 clear hK K
 refine norm_ (a':=?_) ?_ ?_
 rotate_left
 ·show Act.put _ (some 8) _=_
  simp only [Act.put,zL0,zL1,zL2,i64_w,i32_w]
  rfl
 refine last_ (i:=7) (N:=none) #[true,true,true,true,true,true,true,true,false,false] rfl rfl (one_of HT_.out (by kernel_rfl)) (by decide) (fun K hK=>?_)
 have hs9:w8.cell? ⟨gb161,1,none⟩=some (.string a0_1):=zq1 BK161.out 1
 have hfs9:=zq7 BK161.out 1
 have hns9_1:=NB162_161.out
 have hms9_1:=NB161_162.out
 have hs10:w8.cell? ⟨gb161,2,none⟩=some (.string a0_2):=zq1 BK161.out 2
 have hfs10:=zq7 BK161.out 2
 have hns10_1:=NB162_161.out
 have hms10_1:=NB161_162.out
 have hs12:w8.cell? ⟨gb161,3,none⟩=some (.slice A0_3 l0_3.length c0_3):=zq1 BK161.out 3
 have hfs12:=zq7 BK161.out 3
 have hns12_1:=NB162_161.out
 have hms12_1:=NB161_162.out
 have hs14:w8.cell? ⟨gb161,4,none⟩=some (.slice A0_4 l0_4.length c0_4):=zq1 BK161.out 4
 have hfs14:=zq7 BK161.out 4
 have hns14_1:=NB162_161.out
 have hms14_1:=NB161_162.out
 refine skip_ (w1:=?_) (by rfl) rfl ?_ ?_
 rotate_left
 ·go_simp
  rfl
 refine hK.out _ _ ?_
 clear hK K
 refine pure_ (i:=8) (N:=some 10) (v:=?_) (a':=?_) #[true,true,true,true,true,true,true,true,true,false] rfl rfl (any_of HT_.out (by kernel_rfl)) (fun _ _ _ h=>h) (Or.inl ⟨by rfl,?_⟩) ?_ ?_
 rotate_left
 ·intro w'
  go_simp
  with_reducible rfl
 rotate_left
 ·simp only [Act.put,zL0,zL1,zL2,i64_w,i32_w]
  rfl
 refine last_ (i:=9) (N:=none) #[true,true,true,true,true,true,true,true,true,true] rfl rfl (one_of HT_.out (by kernel_rfl)) (by decide) (fun K hK=>?_)
 have hs16:w8.cell? ⟨gb161,7,none⟩=some (.slice A0_7 l0_7.length c0_7):=zq1 BK161.out 7
 have hfs16:=zq7 BK161.out 7
 have hns16_1:=NB162_161.out
 have hms16_1:=NB161_162.out
 refine skip_ (w1:=?_) (by rfl) rfl ?_ ?_
 rotate_left
 ·go_simp
  rfl
 refine hK.out _ _ ?_
 clear hK K
 refine done_ (done_of HT_.out (by kernel_rfl)) ?_
 have hnb17:=NB161_162.out
 have hnc17:=NB162_161.out
 have hcz18_0:w8.cell? ⟨gb161,0,none⟩=some (.string a0_0):=zq1 BK161.out 0
 have hcz18_1:w8.cell? ⟨gb161,1,none⟩=some (.string a0_1):=zq1 BK161.out 1
 have hcz18_2:w8.cell? ⟨gb161,2,none⟩=some (.string a0_2):=zq1 BK161.out 2
 have hcz18_3:w8.cell? ⟨gb161,3,none⟩=some (.slice A0_3 l0_3.length c0_3):=zq1 BK161.out 3
 have hcz18_4:w8.cell? ⟨gb161,4,none⟩=some (.slice A0_4 l0_4.length c0_4):=zq1 BK161.out 4
 have hcz18_5:w8.cell? ⟨gb161,5,none⟩=some (.int .i64 a0_5):=zq1 BK161.out 5
 have hcz18_6:w8.cell? ⟨gb161,6,none⟩=some (.int .i64 a0_6):=zq1 BK161.out 6
 have hcz18_7:w8.cell? ⟨gb161,7,none⟩=some (.slice A0_7 l0_7.length c0_7):=zq1 BK161.out 7
 have hfz18_0:=zq7 BK161.out 0
 have hfz18_1:=zq7 BK161.out 1
 have hfz18_2:=zq7 BK161.out 2
 have hfz18_3:=zq7 BK161.out 3
 have hfz18_4:=zq7 BK161.out 4
 have hfz18_5:=zq7 BK161.out 5
 have hfz18_6:=zq7 BK161.out 6
 have hfz18_7:=zq7 BK161.out 7
 have hcz19_0:w8.cell? ⟨gb162,0,none⟩=some (.string bz0):=zq1 BK162.out 0
 have hcz19_1:w8.cell? ⟨gb162,1,none⟩=some (.string bz0):=zq1 BK162.out 1
 have hcz19_2:w8.cell? ⟨gb162,2,none⟩=some (.string bz0):=zq1 BK162.out 2
 have hcz19_3:w8.cell? ⟨gb162,3,none⟩=some (.slice none 0 0):=zq1 BK162.out 3
 have hcz19_4:w8.cell? ⟨gb162,4,none⟩=some (.slice none 0 0):=zq1 BK162.out 4
 have hcz19_5:w8.cell? ⟨gb162,5,none⟩=some (.int .i64 0):=zq1 BK162.out 5
 have hcz19_6:w8.cell? ⟨gb162,6,none⟩=some (.int .i64 0):=zq1 BK162.out 6
 have hcz19_7:w8.cell? ⟨gb162,7,none⟩=some (.slice none 0 0):=zq1 BK162.out 7
 have hfz19_0:=zq7 BK162.out 0
 have hfz19_1:=zq7 BK162.out 1
 have hfz19_2:=zq7 BK162.out 2
 have hfz19_3:=zq7 BK162.out 3
 have hfz19_4:=zq7 BK162.out 4
 have hfz19_5:=zq7 BK162.out 5
 have hfz19_6:=zq7 BK162.out 6
 have hfz19_7:=zq7 BK162.out 7
 try go_wp2
 refine bodyPost_ret (results_cell_row rfl _ _ gb162 67 #[.string a0_0,.string t163,.string t164,.slice Ao11 t165.length co11,.slice Ao13 t168.length co13,.int .i64 a0_5,.int .i64 a0_6,.slice Ao15 t171.length co15] (0,0) _ rfl (by (with_reducible repeat (first|refine zq6 ?_ _|refine zq8 ?_|refine zq5 ?_ _));refine zq18 (cs:=#[.string a0_0,.string t163,.string t164,.slice Ao11 t165.length co11,.slice Ao13 t168.length co13,.int .i64 a0_5,.int .i64 a0_6,.slice none 0 0]) ?_ 7 _ rfl;(with_reducible repeat (first|refine zq6 ?_ _|refine zq8 ?_|refine zq5 ?_ _));refine zq18 (cs:=#[.string a0_0,.string t163,.string t164,.slice Ao11 t165.length co11,.slice Ao13 t168.length co13,.int .i64 a0_5,.int .i64 0,.slice none 0 0]) ?_ 6 _ rfl;(with_reducible repeat (first|refine zq6 ?_ _|refine zq8 ?_|refine zq5 ?_ _));refine zq18 (cs:=#[.string a0_0,.string t163,.string t164,.slice Ao11 t165.length co11,.slice Ao13 t168.length co13,.int .i64 0,.int .i64 0,.slice none 0 0]) ?_ 5 _ rfl;(with_reducible repeat (first|refine zq6 ?_ _|refine zq8 ?_|refine zq5 ?_ _));refine zq18 (cs:=#[.string a0_0,.string t163,.string t164,.slice Ao11 t165.length co11,.slice none 0 0,.int .i64 0,.int .i64 0,.slice none 0 0]) ?_ 4 _ rfl;(with_reducible repeat (first|refine zq6 ?_ _|refine zq8 ?_|refine zq5 ?_ _));refine zq18 (cs:=#[.string a0_0,.string t163,.string t164,.slice none 0 0,.slice none 0 0,.int .i64 0,.int .i64 0,.slice none 0 0]) ?_ 3 _ rfl;(with_reducible repeat (first|refine zq6 ?_ _|refine zq8 ?_|refine zq5 ?_ _));refine zq18 (cs:=#[.string a0_0,.string t163,.string bz0,.slice none 0 0,.slice none 0 0,.int .i64 0,.int .i64 0,.slice none 0 0]) ?_ 2 _ rfl;(with_reducible repeat (first|refine zq6 ?_ _|refine zq8 ?_|refine zq5 ?_ _));refine zq18 (cs:=#[.string a0_0,.string bz0,.string bz0,.slice none 0 0,.slice none 0 0,.int .i64 0,.int .i64 0,.slice none 0 0]) ?_ 1 _ rfl;(with_reducible repeat (first|refine zq6 ?_ _|refine zq8 ?_|refine zq5 ?_ _));refine zq18 (cs:=#[.string bz0,.string bz0,.string bz0,.slice none 0 0,.slice none 0 0,.int .i64 0,.int .i64 0,.slice none 0 0]) ?_ 0 _ rfl;(with_reducible repeat (first|refine zq6 ?_ _|refine zq8 ?_|refine zq5 ?_ _));refine zq24 ?_ NB162_161.out _;(with_reducible repeat (first|refine zq6 ?_ _|refine zq8 ?_|refine zq5 ?_ _));refine zq24 ?_ NB162_161.out _;(with_reducible repeat (first|refine zq6 ?_ _|refine zq8 ?_|refine zq5 ?_ _));refine zq24 ?_ NB162_161.out _;(with_reducible repeat (first|refine zq6 ?_ _|refine zq8 ?_|refine zq5 ?_ _));refine zq24 ?_ NB162_161.out _;(with_reducible repeat (first|refine zq6 ?_ _|refine zq8 ?_|refine zq5 ?_ _));refine zq24 ?_ NB162_161.out _;(with_reducible repeat (first|refine zq6 ?_ _|refine zq8 ?_|refine zq5 ?_ _));exact BK162.out) Tryd.underlying67 rfl (by kernel_rfl)) rfl ?_
 exact ⟨_,_,_,by first|rfl|(simp [zq16,zq17]<;>rfl)|(simp [*,zq16,zq17]<;>rfl),by (with_reducible repeat (first|apply Kd.z4|apply Kd.z7|apply Kd.z6));exact Kd.z11 (Kd.z8 (p:=⟨gb162,7,none⟩) (Kd.z8 (p:=⟨gb162,6,none⟩) (Kd.z8 (p:=⟨gb162,5,none⟩) (Kd.z8 (p:=⟨gb162,4,none⟩) (Kd.z8 (p:=⟨gb162,3,none⟩) (Kd.z8 (p:=⟨gb162,2,none⟩) (Kd.z8 (p:=⟨gb162,1,none⟩) (Kd.z8 (p:=⟨gb162,0,none⟩) (Kd.z8 (p:=⟨gb161,7,none⟩) (Kd.z8 (p:=⟨gb161,4,none⟩) (Kd.z8 (p:=⟨gb161,3,none⟩) (Kd.z8 (p:=⟨gb161,2,none⟩) (Kd.z8 (p:=⟨gb161,1,none⟩) (Kd.z14 (Kd.z14 HO167.out BK161.out (by decide)) BK162.out (by decide)) (fun _ hk=>hk.1.2) (.string t163)) (fun _ hk=>hk.1.2) (.string t164)) (fun _ hk=>hk.1.2) (.slice Ao11 t165.length co11)) (fun _ hk=>hk.1.2) (.slice Ao13 t168.length co13)) (fun _ hk=>hk.1.2) (.slice Ao15 t171.length co15)) (fun _ hk=>hk.2) (.string a0_0)) (fun _ hk=>hk.2) (.string t163)) (fun _ hk=>hk.2) (.string t164)) (fun _ hk=>hk.2) (.slice Ao11 t165.length co11)) (fun _ hk=>hk.2) (.slice Ao13 t168.length co13)) (fun _ hk=>hk.2) (.int .i64 a0_5)) (fun _ hk=>hk.2) (.int .i64 a0_6)) (fun _ hk=>hk.2) (.slice Ao15 t171.length co15)) (fun _ hk=>trivial),by (with_reducible repeat (first|apply Kd.z4|apply Kd.z7|apply Kd.z6));exact Kd.z11 (Kd.z8 (p:=⟨gb162,7,none⟩) (Kd.z8 (p:=⟨gb162,6,none⟩) (Kd.z8 (p:=⟨gb162,5,none⟩) (Kd.z8 (p:=⟨gb162,4,none⟩) (Kd.z8 (p:=⟨gb162,3,none⟩) (Kd.z8 (p:=⟨gb162,2,none⟩) (Kd.z8 (p:=⟨gb162,1,none⟩) (Kd.z8 (p:=⟨gb162,0,none⟩) (Kd.z8 (p:=⟨gb161,7,none⟩) (Kd.z8 (p:=⟨gb161,4,none⟩) (Kd.z8 (p:=⟨gb161,3,none⟩) (Kd.z8 (p:=⟨gb161,2,none⟩) (Kd.z8 (p:=⟨gb161,1,none⟩) (Kd.z14 (Kd.z14 HO170.out BK161.out (by decide)) BK162.out (by decide)) (fun _ hk=>hk.1.2) (.string t163)) (fun _ hk=>hk.1.2) (.string t164)) (fun _ hk=>hk.1.2) (.slice Ao11 t165.length co11)) (fun _ hk=>hk.1.2) (.slice Ao13 t168.length co13)) (fun _ hk=>hk.1.2) (.slice Ao15 t171.length co15)) (fun _ hk=>hk.2) (.string a0_0)) (fun _ hk=>hk.2) (.string t163)) (fun _ hk=>hk.2) (.string t164)) (fun _ hk=>hk.2) (.slice Ao11 t165.length co11)) (fun _ hk=>hk.2) (.slice Ao13 t168.length co13)) (fun _ hk=>hk.2) (.int .i64 a0_5)) (fun _ hk=>hk.2) (.int .i64 a0_6)) (fun _ hk=>hk.2) (.slice Ao15 t171.length co15)) (fun _ hk=>trivial),by (with_reducible repeat (first|apply Kd.z4|apply Kd.z7|apply Kd.z6));exact Kd.z11 (Kd.z8 (p:=⟨gb162,7,none⟩) (Kd.z8 (p:=⟨gb162,6,none⟩) (Kd.z8 (p:=⟨gb162,5,none⟩) (Kd.z8 (p:=⟨gb162,4,none⟩) (Kd.z8 (p:=⟨gb162,3,none⟩) (Kd.z8 (p:=⟨gb162,2,none⟩) (Kd.z8 (p:=⟨gb162,1,none⟩) (Kd.z8 (p:=⟨gb162,0,none⟩) (Kd.z8 (p:=⟨gb161,7,none⟩) (Kd.z8 (p:=⟨gb161,4,none⟩) (Kd.z8 (p:=⟨gb161,3,none⟩) (Kd.z8 (p:=⟨gb161,2,none⟩) (Kd.z8 (p:=⟨gb161,1,none⟩) (Kd.z14 (Kd.z14 HO173.out BK161.out (by decide)) BK162.out (by decide)) (fun _ hk=>hk.1.2) (.string t163)) (fun _ hk=>hk.1.2) (.string t164)) (fun _ hk=>hk.1.2) (.slice Ao11 t165.length co11)) (fun _ hk=>hk.1.2) (.slice Ao13 t168.length co13)) (fun _ hk=>hk.1.2) (.slice Ao15 t171.length co15)) (fun _ hk=>hk.2) (.string a0_0)) (fun _ hk=>hk.2) (.string t163)) (fun _ hk=>hk.2) (.string t164)) (fun _ hk=>hk.2) (.slice Ao11 t165.length co11)) (fun _ hk=>hk.2) (.slice Ao13 t168.length co13)) (fun _ hk=>hk.2) (.int .i64 a0_5)) (fun _ hk=>hk.2) (.int .i64 a0_6)) (fun _ hk=>hk.2) (.slice Ao15 t171.length co15)) (fun _ hk=>trivial),by repeat (first|(with_reducible first|exact HB.out|apply zq4|apply zq0|apply zq3|refine zq2 ?_ GE161.out|refine zq2 ?_ GE162.out)|exact HB.out)⟩
def slices_Index_int_int.l0:Nat→List Int→Int→Int→Int→Option (Int)
 | 0,_,_,_,_=>none
 | k+1,x0,x1,x7,x8=>if x8 < x7 then (if 0≤x8 then (if x8 < (x0.length:Int) then (if x1=(rd x0 x8) then (some x8) else (slices_Index_int_int.l0 k x0 x1 x7 (wrap64 (x8+1)))) else (none)) else (none)) else (some (-1))
def slices_Index_int_int.f (k:Nat) (l0:List Int) (a1:Int):Option (Int):=slices_Index_int_int.l0 k l0 a1 (l0.length:Int) 0
set_option maxHeartbeats 8000000 in
set_option maxRecDepth 100000 in
theorem slices_Index_int_int.calls (k:Nat) (A0:Option Addr) (c0:Nat) (l0:List Int) (a1:Int) (r:Int) (w:World) (hr0:Kd.C (Kd.int .i64) w A0 l0.length l0) (hc0:l0.length≤c0) (h:slices_Index_int_int.f k l0 a1=some r) :
 Calls Tryd.prog 140 #[.slice A0 l0.length c0,.int .i64 a1] w fun e w'=>e=.returned (.int .i64 r)∧Drawn0 w w':=by
 have HR0:=zA hr0
 have HC0:=zA hc0
 clear hr0 hc0
 have H:(slices_Index_int_int.l0 k l0 a1 (l0.length:Int) 0)=some r:=h
 clear h
 have H':=zA H
 clear H
 go_enter Tryd.func140,Tryd.ntmps140
 go_wp2
 go_loopg [8] k (fun kq v8 w'=>∃ (x8_1:Int),v8=.int .i64 x8_1∧Aside0 (slices_Index_int_int.l0 kq l0 a1 (l0.length:Int) x8_1=some r)∧Aside0 (kq≤k)∧Drawn0 w w')
 case atStart=>exact ⟨(0),(by first|rfl|(simp;done)|(simp [*];done)),H',⟨Nat.le_refl _⟩,by repeat (first|exact Drawn0.refl _|apply Drawn0.step)⟩
 case round =>
  clear H'
  try clear c1
  try clear p2
  obtain ⟨x8_1,rfl,HA,HK1,⟨m1,rfl⟩⟩:=hrel
  cases gk with
  | zero=>exact absurd HA.out (by simp [slices_Index_int_int.l0])
  | succ k1 =>
   have H:=HA.out
   clear HA
   simp only [slices_Index_int_int.l0] at H
   by_cases c3:x8_1 < (l0.length:Int)
   ·rw [if_pos c3] at H
    have c3b0:decide (x8_1 < (l0.length:Int))=true:=decide_eq_true c3
    clear c3
    by_cases c4:0≤x8_1
    ·rw [if_pos c4] at H
     have c4b0:decide (0≤x8_1)=true:=decide_eq_true c4
     clear c4
     by_cases c5:x8_1 < (l0.length:Int)
     ·rw [if_pos c5] at H
      have c5b0:decide (x8_1 < (l0.length:Int))=true:=decide_eq_true c5
      clear c5
      by_cases c6:a1=(rd l0 x8_1)
      ·rw [if_pos c6] at H
       have c6b0:(a1==(rd l0 x8_1))=true:=beq_iff_eq.mpr c6
       have c6b1:(a1 != (rd l0 x8_1))=false:=bne_eq_false_iff_eq.mpr c6
       clear c6
       obtain rfl:=Option.some.inj H
       have p174:0≤(x8_1:Int):=of_decide_eq_true (by first|(with_reducible assumption)|assumption)
       have q174:x8_1 < (l0.length:Int):=of_decide_eq_true (by first|(with_reducible assumption)|assumption)
       obtain ⟨ad174,e174,hx174_0⟩:=Kd.at_int HR0.out x8_1 p174 q174
       cases e174
       replace p174:=eq_true p174
       replace q174:=eq_true q174
       go_wp2
       go_ret
       exact ⟨by first|rfl|(simp;done)|(simp [*];done),by repeat (first|exact Drawn0.refl _|apply Drawn0.step)⟩
      ·rw [if_neg c6] at H
       have c6b0:(a1==(rd l0 x8_1))=false:=beq_eq_false_iff_ne.mpr c6
       have c6b1:(a1 != (rd l0 x8_1))=true:=bne_iff_ne.mpr c6
       have H':=zA H
       clear H
       have p174:0≤(x8_1:Int):=of_decide_eq_true (by first|(with_reducible assumption)|assumption)
       have q174:x8_1 < (l0.length:Int):=of_decide_eq_true (by first|(with_reducible assumption)|assumption)
       obtain ⟨ad174,e174,hx174_0⟩:=Kd.at_int HR0.out x8_1 p174 q174
       cases e174
       replace p174:=eq_true p174
       replace q174:=eq_true q174
       go_wp2
       go_roundg k1
       case measure=>have:=HK1.out;omega
       case rel=>exact ⟨(wrap64 (x8_1+1)),(by first|rfl|(simp;done)|(simp [*];done)),H',⟨by have:=HK1.out;omega⟩,by repeat (first|exact Drawn0.refl _|apply Drawn0.step)⟩
     ·rw [if_neg c5] at H
      exact absurd H (by simp)
    ·rw [if_neg c4] at H
     exact absurd H (by simp)
   ·rw [if_neg c3] at H
    have c3b0:decide (x8_1 < (l0.length:Int))=false:=decide_eq_false c3
    clear c3
    obtain rfl:=Option.some.inj H
    go_wp2
    go_ret
    exact ⟨by first|rfl|(simp;done)|(simp [*];done),by repeat (first|exact Drawn0.refl _|apply Drawn0.step)⟩
def slices_Contains_int_int.f (k:Nat) (l0:List Int) (a1:Int):Option (Bool):=(slices_Index_int_int.f k l0 a1).bind fun t175=>(some (decide (t175≥0)))
set_option maxHeartbeats 8000000 in
set_option maxRecDepth 100000 in
theorem slices_Contains_int_int.calls (k:Nat) (A0:Option Addr) (c0:Nat) (l0:List Int) (a1:Int) (r:Bool) (w:World) (hr0:Kd.C (Kd.int .i64) w A0 l0.length l0) (hc0:l0.length≤c0) (h:slices_Contains_int_int.f k l0 a1=some r) :
 Calls Tryd.prog 123 #[.slice A0 l0.length c0,.int .i64 a1] w fun e w'=>e=.returned (.bool r)∧Drawn0 w w':=by
 have HR0:=zA hr0
 have HC0:=zA hc0
 clear hr0 hc0
 have H:((slices_Index_int_int.f k l0 a1).bind fun t175=>(some (decide (t175≥0))))=some r:=h
 clear h
 replace H:=Option.bind_eq_some_iff.mp H
 obtain ⟨t175,A30,H⟩:=H
 replace H:(some (decide (t175≥0)))=some r:=H
 have A3:=zA A30
 clear A30
 obtain rfl:=Option.some.inj H
 go_enter Tryd.func123,Tryd.ntmps123
 go_wp2_with (first|((with_reducible refine zq19 (f:=140) rfl ?_);refine goesL_ (some 7) rfl rfl Tryd.func140 (by kernel_rfl) rfl #[.slice A0 l0.length c0,.int .i64 a1] rfl (by (try simp only [zL3,zL4,zL5]);first|done|rfl|(simp only [zL6,zL7];rfl)) ?_;(with_reducible refine (slices_Index_int_int.calls k _ _ l0 a1 t175 _ ?side1 ?side2 A3.out).mono ?_);(case side1=>repeat (first|exact HR0.out|(with_reducible refine Kd.z0 ?_ _)|(with_reducible refine Kd.z3 ?_ _)|(with_reducible refine Kd.z2 ?_)));(case side2=>exact HC0.out);rintro e w' ⟨rfl,⟨nd,rfl⟩⟩;refine ⟨_,rfl,?_⟩))
 go_ret
 exact ⟨by first|rfl|(simp;done)|(simp [*];done),by repeat (first|exact Drawn0.refl _|apply Drawn0.step)⟩
end Go.Proofs.YthkibaldmjfmmaaDoor.Q
