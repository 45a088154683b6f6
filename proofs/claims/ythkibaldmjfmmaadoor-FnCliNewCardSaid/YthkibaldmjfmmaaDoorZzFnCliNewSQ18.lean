/- Of a text of ours what this claim needs. -/
import Derived.Test.YthkibaldmjfmmaaDoorZzFnCliNewSQ0
import Derived.Test.YthkibaldmjfmmaaDoorZzFnCliNewSQ14
import Derived.Test.YthkibaldmjfmmaaDoorZzFnCliNewSQ16
import Derived.Test.YthkibaldmjfmmaaDoorZzFnCliNewSQ17
namespace Go.Proofs.YthkibaldmjfmmaaDoor.Q
open Go.RowKit Go.Proofs.YthkibaldmjfmmaaDoorW.PrintWords Go.Proofs.YthkibaldmjfmmaaDoorW.PrintLast Go.Proofs.YthkibaldmjfmmaaDoorW.PrintMore
attribute [local go_sem] max2_int min2_int max_two min_two max_three min_three max_four min_four
set_option linter.unusedVariables false
set_option linter.unusedSimpArgs false
def spec_l4New.f (a0:ByteArray) (a1_0:ByteArray) (a1_1:ByteArray) (l1_2:List (S30)) (l1_3:List ByteArray):Option (ByteArray × ByteArray × ByteArray × (List (S30)) × List ByteArray × Int × Int × List Int):=(spec_l2Copy.f a1_0 a1_1 l1_2 l1_3).bind fun bt117=>(if 0≤(l1_2.length:Int) then (if ((l1_2.length:Int):Int).toNat≤35184372088832 then (some (a0,bt117.1,bt117.2.1,bt117.2.2.1,bt117.2.2.2,0,0,(List.replicate ((l1_2.length:Int):Int).toNat 0))) else (none)) else (none))
def spec_l4New.T1:Bool × List (List Nat × List Nat):=(true,[([],[]),([],[]),([1],[1]),([],[]),([3],[3]),([4],[4]),([5,5],[5]),([0,2,6],[0,2,6]),([7,2,0,1,2,3,4,5,6,7],[7])])
def spec_l4New.B1:List Nat:=[0,0,2,0,8,24,56,127,255]
theorem spec_l4New.tab1:rtab .any (opsOf Tryd.f85 1)=spec_l4New.T1:=by kernel_rfl
theorem spec_l4New.bits1:waitsOk spec_l4New.T1.2 spec_l4New.B1=true:=by kernel_rfl
set_option maxHeartbeats 8000000 in
set_option maxRecDepth 100000 in
theorem spec_l4New.calls (a0:ByteArray) (a1_0:ByteArray) (a1_1:ByteArray) (A1_2:Option Addr) (c1_2:Nat) (l1_2:List (S30)) (A1_3:Option Addr) (c1_3:Nat) (l1_3:List ByteArray) (r1:ByteArray) (r2:ByteArray) (r3:ByteArray) (r4:List (S30)) (r5:List ByteArray) (r6:Int) (r7:Int) (r8:List Int) (w:World) (hr1_2:Kd.C k30 w A1_2 l1_2.length l1_2) (hc1_2:l1_2.length≤c1_2) (hr1_3:Kd.C Kd.string w A1_3 l1_3.length l1_3) (hc1_3:l1_3.length≤c1_3) (h:spec_l4New.f a0 a1_0 a1_1 l1_2 l1_3=some (r1,r2,r3,r4,r5,r6,r7,r8)) :
 Calls Tryd.prog 85 #[.string a0,.agg #[.string a1_0,.string a1_1,.slice A1_2 l1_2.length c1_2,.slice A1_3 l1_3.length c1_3]] w fun e w'=>∃ v3_ v4_ v7_:Value,e=.returned (.agg #[.string r1,.string r2,.string r3,v3_,v4_,.int .i64 r6,.int .i64 r7,v7_])∧Kd.R k30 30 w' w.heap.size (fun _=>True) v3_ r4∧Kd.R Kd.string 9 w' w.heap.size (fun _=>True) v4_ r5∧Kd.R (Kd.int .i64) 3 w' w.heap.size (fun _=>True) v7_ r8∧Below w.heap.size w w':=by
 have hu33:=Tryd.underlying33
 have hu67:=Tryd.underlying67
 have HR1_2:=zA hr1_2
 have HC1_2:=zA hc1_2
 clear hr1_2 hc1_2
 have HR1_3:=zA hr1_3
 have HC1_3:=zA hc1_3
 clear hr1_3 hc1_3
 have HB:=zA (Below.refl w.heap.size w)
 have H:((spec_l2Copy.f a1_0 a1_1 l1_2 l1_3).bind fun bt117=>(if 0≤(l1_2.length:Int) then (if ((l1_2.length:Int):Int).toNat≤35184372088832 then (some (a0,bt117.1,bt117.2.1,bt117.2.2.1,bt117.2.2.2,0,0,(List.replicate ((l1_2.length:Int):Int).toNat 0))) else (none)) else (none)))=some (r1,r2,r3,r4,r5,r6,r7,r8):=h
 clear h
 replace H:=Option.bind_eq_some_iff.mp H
 obtain ⟨⟨t117,t118,t119,t122⟩,A30,H⟩:=H
 replace H:(if 0≤(l1_2.length:Int) then (if ((l1_2.length:Int):Int).toNat≤35184372088832 then (some (a0,t117,t118,t119,t122,0,0,(List.replicate ((l1_2.length:Int):Int).toNat 0))) else (none)) else (none))=some (r1,r2,r3,r4,r5,r6,r7,r8):=H
 have A3:=zA A30
 clear A30
 by_cases c4:0≤(l1_2.length:Int)
 ·rw [if_pos c4] at H
  have c4b0:=eq_true c4
  have c4b1:decide (0≤(l1_2.length:Int))=true:=decide_eq_true c4
  clear c4
  by_cases c5:((l1_2.length:Int):Int).toNat≤35184372088832
  ·rw [if_pos c5] at H
   have c5b0:=eq_true c5
   have c5b1:decide (((l1_2.length:Int):Int).toNat≤35184372088832)=true:=decide_eq_true c5
   clear c5
   obtain ⟨y125,hy125⟩:∃ y_:List Int,y_=(List.replicate ((l1_2.length:Int):Int).toNat 0):=⟨_,rfl⟩
   replace H:(some (a0,t117,t118,t119,t122,0,0,y125))=some (r1,r2,r3,r4,r5,r6,r7,r8):=by first|(rw [hy125];with_reducible exact H)|(have H2_:=(Option.bind_some _ _).symm.trans H;rw [hy125];with_reducible exact H2_)|(have H2_:=(Option.bind_some _ _).symm.trans H;with_reducible exact H2_)|with_reducible exact H|(rw [hy125];exact H)|exact H
   have Ny125:=zA hy125
   clear hy125
   simp only [Option.some.injEq,Prod.mk.injEq] at H
   obtain ⟨rfl,rfl,rfl,rfl,rfl,rfl,rfl,rfl⟩:=H
   go_enter Tryd.func85,Tryd.ntmps85
   try go_wp2_with (first|((with_reducible refine zq21 (N:=3) rfl ?_);refine zq23 ?hg (N:=3) ?hd (cs:=#[.string a1_0,.string a1_1,.slice A1_2 l1_2.length c1_2,.slice A1_3 l1_3.length c1_3]) (t:=33) ?hr ?_;(case hd=>rfl);(case hg=>rfl);(case hr=>first|(go_simp;done)|(go_simp;rfl));intro gb115 hg w6 hbox hb;have n0_:=zA (zq11 (by repeat (first|(with_reducible first|exact HB.out|apply zq4|apply zq0|apply zq3)|exact HB.out)) hb);have n1_:=zA (hbox);have n2_:=zA ((by rw [hg];exact (zq14 (by repeat (first|(with_reducible first|exact HB.out|apply zq4|apply zq0|apply zq3)|exact HB.out))):w.heap.size≤gb115));have n3_:=zA ((by rw [hg];exact (zq14 (by repeat (first|(with_reducible first|exact HB.out|apply zq4|apply zq0|apply zq3)|exact HB.out))):w.heap.size≤gb115));clear HB;have HB:=n0_;have BK115:=n1_;have GW115:=n2_;have GE115:=n3_;clear n0_ n1_ n2_ n3_;clear hb hbox hg)|((with_reducible refine zq21 (N:=4) rfl ?_);refine zq23 ?hg (N:=4) ?hd (cs:=#[.string bz0,.string bz0,.string bz0,.slice none 0 0,.slice none 0 0,.int .i64 0,.int .i64 0,.slice none 0 0]) (t:=67) ?hr ?_;(case hd=>rfl);(case hg=>rfl);(case hr=>first|(go_simp;done)|(go_simp;rfl));intro gb116 hg w7 hbox hb;have n0_:=zA (zq13 (by (with_reducible repeat (first|refine zq6 ?_ _|refine zq8 ?_|refine zq5 ?_ _));exact BK115.out) hb);have n1_:=zA (zq11 (by repeat (first|(with_reducible first|exact HB.out|apply zq4|apply zq0|apply zq3|refine zq2 ?_ GE115.out)|exact HB.out)) hb);have n2_:=zA (hbox);have n3_:=zA ((by rw [hg];exact (zq14 (by repeat (first|(with_reducible first|exact HB.out|apply zq4|apply zq0|apply zq3|refine zq2 ?_ GE115.out)|exact HB.out))):w.heap.size≤gb116));have n4_:=zA ((by rw [hg];exact (zq14 (by repeat (first|(with_reducible first|exact HB.out|apply zq4|apply zq0|apply zq3|refine zq2 ?_ GE115.out)|exact HB.out))):w.heap.size≤gb116));have n5_:=zA ((by rw [hg];exact Nat.ne_of_lt (zq25 (g:=gb115) (o:=.cells #[.string a1_0,.string a1_1,.slice A1_2 l1_2.length c1_2,.slice A1_3 l1_3.length c1_3] 33 (0,0)) (by (with_reducible repeat (first|refine zq6 ?_ _|refine zq8 ?_|refine zq5 ?_ _));exact BK115.out)):gb115≠gb116));have n6_:=zA ((by rw [hg];exact Nat.ne_of_gt (zq25 (g:=gb115) (o:=.cells #[.string a1_0,.string a1_1,.slice A1_2 l1_2.length c1_2,.slice A1_3 l1_3.length c1_3] 33 (0,0)) (by (with_reducible repeat (first|refine zq6 ?_ _|refine zq8 ?_|refine zq5 ?_ _));exact BK115.out)):gb116≠gb115));clear BK115;clear HB;have BK115:=n0_;have HB:=n1_;have BK116:=n2_;have GW116:=n3_;have GE116:=n4_;have NB115_116:=n5_;have NB116_115:=n6_;clear n0_ n1_ n2_ n3_ n4_ n5_ n6_;clear hb hbox hg))
   have n0_:=zA (zq8 BK115.out)
   have n1_:=zA (zq8 BK116.out)
   have n2_:=zA (zq3 HB.out)
   clear BK115
   clear BK116
   clear HB
   have BK115:=n0_
   have BK116:=n1_
   have HB:=n2_
   clear n0_ n1_ n2_
   refine start_ (n:=9) (S:=fun w'=>w'.cell? ⟨gb115,0,none⟩=some (.string a1_0)∧w'.cell? ⟨gb115,1,none⟩=some (.string a1_1)∧w'.cell? ⟨gb115,2,none⟩=some (.slice A1_2 l1_2.length c1_2)∧w'.cell? ⟨gb115,3,none⟩=some (.slice A1_3 l1_3.length c1_3)) (ds:=[]) #[false,false,false,false,false,false,false,false,false] (by kernel_rfl) rfl rfl ⟨zq1 BK115.out 0,zq1 BK115.out 1,zq1 BK115.out 2,zq1 BK115.out 3⟩ (fun hHeld=>?_);refine with_tabW spec_l4New.tab1 spec_l4New.bits1 (fun HT_ HW_=>?_)
   generalize w7.drew=w8 at BK115 BK116 HB hHeld ⊢
   refine pure_ (i:=0) (N:=some 5) (v:=?_) (a':=?_) #[true,false,false,false,false,false,false,false,false] rfl rfl (any_of HT_.out (by kernel_rfl)) (fun _ _ _ h=>h) (Or.inl ⟨by rfl,?_⟩) ?_ ?_
   rotate_left
   ·intro w'
    go_simp
    with_reducible rfl
   rotate_left
   ·simp only [Act.put,zL0,zL1,zL2,i64_w,i32_w]
    rfl
   refine pure_ (i:=3) (N:=some 8) (v:=?_) (a':=?_) #[true,false,false,true,false,false,false,false,false] rfl rfl (any_of HT_.out (by kernel_rfl)) (fun _ _ _ h=>h) (Or.inl ⟨by rfl,?_⟩) ?_ ?_
   rotate_left
   ·intro w'
    go_simp
    with_reducible rfl
   rotate_left
   ·simp only [Act.put,zL0,zL1,zL2,i64_w,i32_w]
    rfl
   refine take_ (i:=1) (N:=some 6) (v:=?_) (a':=?_) #[true,true,false,true,false,false,false,false,false] rfl rfl (take_ofW HT_.out HW_.out (by kernel_rfl)) (fun _ _ _ h=>h) (Or.inl ⟨by rfl,?_⟩) hHeld ?_ ?_
   rotate_left
   ·rintro w' ⟨s0,s1,s2,s3⟩
    go_simp
    with_reducible rfl
   rotate_left
   ·simp only [Act.put,zL0,zL1,zL2,i64_w,i32_w]
    rfl
   refine take_ (i:=4) (N:=some 9) (v:=?_) (a':=?_) #[true,true,false,true,true,false,false,false,false] rfl rfl (take_ofW HT_.out HW_.out (by kernel_rfl)) (fun _ _ _ h=>h) (Or.inl ⟨by rfl,?_⟩) hHeld ?_ ?_
   rotate_left
   ·rintro w' ⟨s0,s1,s2,s3⟩
    go_simp
    with_reducible rfl
   rotate_left
   ·simp only [Act.put,zL0,zL1,zL2,i64_w,i32_w]
    rfl
   refine pure_ (i:=5) (N:=some 10) (v:=?_) (a':=?_) #[true,true,false,true,true,true,false,false,false] rfl rfl (any_of HT_.out (by kernel_rfl)) (fun _ _ _ h=>h) (Or.inl ⟨by rfl,?_⟩) ?_ ?_
   rotate_left
   ·intro w'
    go_simp
    with_reducible rfl
   rotate_left
   ·simp only [Act.put,zL0,zL1,zL2,i64_w,i32_w]
    rfl
   refine join_ (σ:=Value × Value × Value) 2 #[true,true,true,true,true,true,true,false,false] (fun s_=>[(7,.agg #[.string t117,.string t118,s_.1,s_.2.1]),(11,s_.2.2)]) (fun s_ w'=>(w'.cell? ⟨gb115,0,none⟩=some (.string a1_0)∧w'.cell? ⟨gb115,1,none⟩=some (.string a1_1)∧w'.cell? ⟨gb115,2,none⟩=some (.slice A1_2 l1_2.length c1_2)∧w'.cell? ⟨gb115,3,none⟩=some (.slice A1_3 l1_3.length c1_3))∧(Kd.R k30 30 w' w.heap.size (fun _=>True) s_.1 t119)∧(Kd.R Kd.string 9 w' w.heap.size (fun _=>True) s_.2.1 t122)∧(Kd.R (Kd.int .i64) 3 w' w.heap.size (fun _=>True) s_.2.2 y125)∧(w'.heap[gb115]?=some (.cells #[.string a1_0,.string a1_1,.slice A1_2 l1_2.length c1_2,.slice A1_3 l1_3.length c1_3] 33 (0,0)))∧(w'.heap[gb116]?=some (.cells #[.string bz0,.string bz0,.string bz0,.slice none 0 0,.slice none 0 0,.int .i64 0,.int .i64 0,.slice none 0 0] 67 (0,0)))∧(Below w.heap.size w w')) ?_ ?_
   rotate_left
   ·intro hCont
    refine two_ (i:=2) (j:=6) (Ni:=some 7) (Nj:=some 11) #[true,true,true,true,true,true,false,false,false] #[true,true,false,true,true,true,true,false,false] rfl rfl rfl rfl (two_of HT_.out (by kernel_rfl)) (by decide) (by decide) (fun K hK=>?_) (fun K hK=>?_)
    ·skip
     refine goes_ Tryd.func121 (by kernel_rfl) rfl #[.agg #[.string a1_0,.string a1_1,.slice A1_2 l1_2.length c1_2,.slice A1_3 l1_3.length c1_3]] (by rfl) rfl rfl (by (try simp only [zL3,zL4,zL5]);first|done|rfl|(simp only [zL6,zL7];rfl)) ?_
     with_reducible refine (spec_l2Copy.calls a1_0 a1_1 _ _ l1_2 _ _ l1_3 t117 t118 t119 t122 _ ?side1 ?side2 ?side3 ?side4 A3.out).mono ?_
     (case side1=>repeat (first|exact (Kd.z1 HR1_2.out HB.out)|(with_reducible refine Kd.z0 ?_ _)|(with_reducible refine Kd.z3 ?_ _)|(with_reducible refine Kd.z2 ?_)))
     (case side2=>exact HC1_2.out)
     (case side3=>repeat (first|exact (Kd.z1 HR1_3.out HB.out)|(with_reducible refine Kd.z0 ?_ _)|(with_reducible refine Kd.z3 ?_ _)|(with_reducible refine Kd.z2 ?_)))
     (case side4=>exact HC1_3.out)
     rintro e w9 ⟨v120,v123,rfl,ho0,ho1,hb⟩
     refine ⟨_,rfl,?_⟩
     have n0_:=zA (Kd.z10 ho0 (zq14 (by repeat (first|(with_reducible first|exact HB.out|apply zq4|apply zq0|apply zq3|refine zq2 ?_ GE115.out|refine zq2 ?_ GE116.out)|exact HB.out))))
     have n1_:=zA (Kd.z10 ho1 (zq14 (by repeat (first|(with_reducible first|exact HB.out|apply zq4|apply zq0|apply zq3|refine zq2 ?_ GE115.out|refine zq2 ?_ GE116.out)|exact HB.out))))
     have n2_:=zA (zq13 (by (with_reducible repeat (first|refine zq6 ?_ _|refine zq8 ?_|refine zq5 ?_ _));exact BK115.out) hb)
     have n3_:=zA (zq13 (by (with_reducible repeat (first|refine zq6 ?_ _|refine zq8 ?_|refine zq5 ?_ _));exact BK116.out) hb)
     have n4_:=zA (zq11 (by repeat (first|(with_reducible first|exact HB.out|apply zq4|apply zq0|apply zq3|refine zq2 ?_ GE115.out|refine zq2 ?_ GE116.out)|exact HB.out)) hb)
     clear BK115
     clear BK116
     clear HB
     have HO121:=n0_
     have HO124:=n1_
     have BK115:=n2_
     have BK116:=n3_
     have HB:=n4_
     clear n0_ n1_ n2_ n3_ n4_
     (try clear hb)
     (try clear hk)
     (try clear ho0)
     (try clear ho1)
     refine hK.out _ _ ⟨zq1 BK115.out 0,zq1 BK115.out 1,zq1 BK115.out 2,zq1 BK115.out 3⟩ (fun hHeld=>?_)
     clear hK K
     refine norm_ (a':=?_) ?_ ?_
     rotate_left
     ·show Act.put _ (some 7) _=_
      simp only [Act.put,zL0,zL1,zL2,i64_w,i32_w]
      rfl
     refine one_ (i:=6) (N:=some 11) #[true,true,true,true,true,true,true,false,false] rfl rfl (one_of HT_.out (by kernel_rfl)) (by decide) (fun K hK=>?_)
     refine Kd.R_make_step (Kd.int .i64) _ 3 (by rfl) (N:=11) rfl 61 _ _ rfl (l1_2.length:Int) rfl rfl Tryd.underlying61 (.int .i64 0) 8 info3 rfl (by decide) (by omega) 0 (ok:=fun _=>True) (okp:=fun _=>True) rfl (fun _ hk=>hk) trivial (of_decide_eq_true (by first|(with_reducible assumption)|assumption)) (Nat.le_trans (Nat.mul_le_mul_right _ (of_decide_eq_true (by first|(with_reducible assumption)|assumption):(l1_2.length:Int).toNat≤35184372088832)) (by omega)) (Below.refl _ _) (Nat.le_refl _) ?_
     intro v126 w10 ho11 hb hg_ hnew_
     clear hg_ hnew_
     (first|rw [← Ny125.out] at ho11|(simp only [Int.reduceToNat] at ho11;rw [← Ny125.out] at ho11))
     have n0_:=zA (Kd.z5 (by (with_reducible repeat (first|apply Kd.z4|apply Kd.z7|apply Kd.z6));exact HO121.out) hb)
     have n1_:=zA (Kd.z5 (by (with_reducible repeat (first|apply Kd.z4|apply Kd.z7|apply Kd.z6));exact HO124.out) hb)
     have n2_:=zA (Kd.z10 ho11 (zq14 (by repeat (first|(with_reducible first|exact HB.out|apply zq4|apply zq0|apply zq3|refine zq2 ?_ GE115.out|refine zq2 ?_ GE116.out)|exact HB.out))))
     have n3_:=zA (zq13 (by (with_reducible repeat (first|refine zq6 ?_ _|refine zq8 ?_|refine zq5 ?_ _));exact BK115.out) hb)
     have n4_:=zA (zq13 (by (with_reducible repeat (first|refine zq6 ?_ _|refine zq8 ?_|refine zq5 ?_ _));exact BK116.out) hb)
     have n5_:=zA (zq11 (by repeat (first|(with_reducible first|exact HB.out|apply zq4|apply zq0|apply zq3|refine zq2 ?_ GE115.out|refine zq2 ?_ GE116.out)|exact HB.out)) hb)
     clear HO121
     clear HO124
     clear BK115
     clear BK116
     clear HB
     have HO121:=n0_
     have HO124:=n1_
     have HO127:=n2_
     have BK115:=n3_
     have BK116:=n4_
     have HB:=n5_
     clear n0_ n1_ n2_ n3_ n4_ n5_
     clear hb ho11
     obtain ⟨Ao12,co12,eo12⟩:=Kd.z13 HO127.out
     (first|subst eo12|(injection eo12 with f1_ f2_ f3_;have f4_:=f1_.symm;have f5_:=f3_.symm;clear f1_ f2_ f3_;subst f4_;subst f5_))
     obtain ⟨Ao13,co13,eo13⟩:=Kd.z13 HO124.out
     (first|subst eo13|(injection eo13 with f1_ f2_ f3_;have f4_:=f1_.symm;have f5_:=f3_.symm;clear f1_ f2_ f3_;subst f4_;subst f5_))
     obtain ⟨Ao14,co14,eo14⟩:=Kd.z13 HO121.out
     (first|subst eo14|(injection eo14 with f1_ f2_ f3_;have f4_:=f1_.symm;have f5_:=f3_.symm;clear f1_ f2_ f3_;subst f4_;subst f5_))
     refine hK.out _ _ ⟨zq1 BK115.out 0,zq1 BK115.out 1,zq1 BK115.out 2,zq1 BK115.out 3⟩ (fun hHeld=>?_)
     clear hK K
     refine norm_ (a':=?_) ?_ ?_
     rotate_left
     ·show Act.put _ (some 11) _=_
      simp only [Act.put,zL0,zL1,zL2,i64_w,i32_w]
      rfl
     exact norm_ (by simp only [putAll,Act.put,zL0,zL1,zL2]) (hCont (.slice Ao14 t119.length co14,.slice Ao13 t122.length co13,.slice Ao12 y125.length co12) _ ⟨hHeld,(by (with_reducible repeat (first|apply Kd.z4|apply Kd.z7|apply Kd.z6));exact HO121.out),(by (with_reducible repeat (first|apply Kd.z4|apply Kd.z7|apply Kd.z6));exact HO124.out),(by (with_reducible repeat (first|apply Kd.z4|apply Kd.z7|apply Kd.z6));exact HO127.out),(by (with_reducible repeat (first|refine zq6 ?_ _|refine zq8 ?_|refine zq5 ?_ _));exact BK115.out),(by (with_reducible repeat (first|refine zq6 ?_ _|refine zq8 ?_|refine zq5 ?_ _));exact BK116.out),(by repeat (first|(with_reducible first|exact HB.out|apply zq4|apply zq0|apply zq3|refine zq2 ?_ GE115.out|refine zq2 ?_ GE116.out)|exact HB.out))⟩)
    ·skip
     refine Kd.R_make_step (Kd.int .i64) _ 3 (by rfl) (N:=11) rfl 61 _ _ rfl (l1_2.length:Int) rfl rfl Tryd.underlying61 (.int .i64 0) 8 info3 rfl (by decide) (by omega) 0 (ok:=fun _=>True) (okp:=fun _=>True) rfl (fun _ hk=>hk) trivial (of_decide_eq_true (by first|(with_reducible assumption)|assumption)) (Nat.le_trans (Nat.mul_le_mul_right _ (of_decide_eq_true (by first|(with_reducible assumption)|assumption):(l1_2.length:Int).toNat≤35184372088832)) (by omega)) (Below.refl _ _) (Nat.le_refl _) ?_
     intro v126 w9 ho10 hb hg_ hnew_
     clear hg_ hnew_
     (first|rw [← Ny125.out] at ho10|(simp only [Int.reduceToNat] at ho10;rw [← Ny125.out] at ho10))
     have n0_:=zA (Kd.z10 ho10 (zq14 (by repeat (first|(with_reducible first|exact HB.out|apply zq4|apply zq0|apply zq3|refine zq2 ?_ GE115.out|refine zq2 ?_ GE116.out)|exact HB.out))))
     have n1_:=zA (zq13 (by (with_reducible repeat (first|refine zq6 ?_ _|refine zq8 ?_|refine zq5 ?_ _));exact BK115.out) hb)
     have n2_:=zA (zq13 (by (with_reducible repeat (first|refine zq6 ?_ _|refine zq8 ?_|refine zq5 ?_ _));exact BK116.out) hb)
     have n3_:=zA (zq11 (by repeat (first|(with_reducible first|exact HB.out|apply zq4|apply zq0|apply zq3|refine zq2 ?_ GE115.out|refine zq2 ?_ GE116.out)|exact HB.out)) hb)
     clear BK115
     clear BK116
     clear HB
     have HO127:=n0_
     have BK115:=n1_
     have BK116:=n2_
     have HB:=n3_
     clear n0_ n1_ n2_ n3_
     clear hb ho10
     refine hK.out _ _ ⟨zq1 BK115.out 0,zq1 BK115.out 1,zq1 BK115.out 2,zq1 BK115.out 3⟩ (fun hHeld=>?_)
     clear hK K
     refine norm_ (a':=?_) ?_ ?_
     rotate_left
     ·show Act.put _ (some 11) _=_
      simp only [Act.put,zL0,zL1,zL2,i64_w,i32_w]
      rfl
     refine one_ (i:=2) (N:=some 7) #[true,true,true,true,true,true,true,false,false] rfl rfl (one_of HT_.out (by kernel_rfl)) (by decide) (fun K hK=>?_)
     refine goes_ Tryd.func121 (by kernel_rfl) rfl #[.agg #[.string a1_0,.string a1_1,.slice A1_2 l1_2.length c1_2,.slice A1_3 l1_3.length c1_3]] (by rfl) rfl rfl (by (try simp only [zL3,zL4,zL5]);first|done|rfl|(simp only [zL6,zL7];rfl)) ?_
     with_reducible refine (spec_l2Copy.calls a1_0 a1_1 _ _ l1_2 _ _ l1_3 t117 t118 t119 t122 _ ?side1 ?side2 ?side3 ?side4 A3.out).mono ?_
     (case side1=>repeat (first|exact (Kd.z1 HR1_2.out HB.out)|(with_reducible refine Kd.z0 ?_ _)|(with_reducible refine Kd.z3 ?_ _)|(with_reducible refine Kd.z2 ?_)))
     (case side2=>exact HC1_2.out)
     (case side3=>repeat (first|exact (Kd.z1 HR1_3.out HB.out)|(with_reducible refine Kd.z0 ?_ _)|(with_reducible refine Kd.z3 ?_ _)|(with_reducible refine Kd.z2 ?_)))
     (case side4=>exact HC1_3.out)
     rintro e w11 ⟨v120,v123,rfl,ho0,ho1,hb⟩
     refine ⟨_,rfl,?_⟩
     have n0_:=zA (Kd.z5 (by (with_reducible repeat (first|apply Kd.z4|apply Kd.z7|apply Kd.z6));exact HO127.out) hb)
     have n1_:=zA (Kd.z10 ho0 (zq14 (by repeat (first|(with_reducible first|exact HB.out|apply zq4|apply zq0|apply zq3|refine zq2 ?_ GE115.out|refine zq2 ?_ GE116.out)|exact HB.out))))
     have n2_:=zA (Kd.z10 ho1 (zq14 (by repeat (first|(with_reducible first|exact HB.out|apply zq4|apply zq0|apply zq3|refine zq2 ?_ GE115.out|refine zq2 ?_ GE116.out)|exact HB.out))))
     have n3_:=zA (zq13 (by (with_reducible repeat (first|refine zq6 ?_ _|refine zq8 ?_|refine zq5 ?_ _));exact BK115.out) hb)
     have n4_:=zA (zq13 (by (with_reducible repeat (first|refine zq6 ?_ _|refine zq8 ?_|refine zq5 ?_ _));exact BK116.out) hb)
     have n5_:=zA (zq11 (by repeat (first|(with_reducible first|exact HB.out|apply zq4|apply zq0|apply zq3|refine zq2 ?_ GE115.out|refine zq2 ?_ GE116.out)|exact HB.out)) hb)
     clear HO127
     clear BK115
     clear BK116
     clear HB
     have HO127:=n0_
     have HO121:=n1_
     have HO124:=n2_
     have BK115:=n3_
     have BK116:=n4_
     have HB:=n5_
     clear n0_ n1_ n2_ n3_ n4_ n5_
     (try clear hb)
     (try clear hk)
     (try clear ho0)
     (try clear ho1)
     obtain ⟨Ao12,co12,eo12⟩:=Kd.z13 HO127.out
     (first|subst eo12|(injection eo12 with f1_ f2_ f3_;have f4_:=f1_.symm;have f5_:=f3_.symm;clear f1_ f2_ f3_;subst f4_;subst f5_))
     obtain ⟨Ao13,co13,eo13⟩:=Kd.z13 HO124.out
     (first|subst eo13|(injection eo13 with f1_ f2_ f3_;have f4_:=f1_.symm;have f5_:=f3_.symm;clear f1_ f2_ f3_;subst f4_;subst f5_))
     obtain ⟨Ao14,co14,eo14⟩:=Kd.z13 HO121.out
     (first|subst eo14|(injection eo14 with f1_ f2_ f3_;have f4_:=f1_.symm;have f5_:=f3_.symm;clear f1_ f2_ f3_;subst f4_;subst f5_))
     refine hK.out _ _ ⟨zq1 BK115.out 0,zq1 BK115.out 1,zq1 BK115.out 2,zq1 BK115.out 3⟩ (fun hHeld=>?_)
     clear hK K
     refine norm_ (a':=?_) ?_ ?_
     rotate_left
     ·show Act.put _ (some 7) _=_
      simp only [Act.put,zL0,zL1,zL2,i64_w,i32_w]
      rfl
     exact norm_ (by simp only [putAll,Act.put,zL0,zL1,zL2]) (hCont (.slice Ao14 t119.length co14,.slice Ao13 t122.length co13,.slice Ao12 y125.length co12) _ ⟨hHeld,(by (with_reducible repeat (first|apply Kd.z4|apply Kd.z7|apply Kd.z6));exact HO121.out),(by (with_reducible repeat (first|apply Kd.z4|apply Kd.z7|apply Kd.z6));exact HO124.out),(by (with_reducible repeat (first|apply Kd.z4|apply Kd.z7|apply Kd.z6));exact HO127.out),(by (with_reducible repeat (first|refine zq6 ?_ _|refine zq8 ?_|refine zq5 ?_ _));exact BK115.out),(by (with_reducible repeat (first|refine zq6 ?_ _|refine zq8 ?_|refine zq5 ?_ _));exact BK116.out),(by repeat (first|(with_reducible first|exact HB.out|apply zq4|apply zq0|apply zq3|refine zq2 ?_ GE115.out|refine zq2 ?_ GE116.out)|exact HB.out))⟩)
   rintro ⟨v120,v123,v126⟩ w15 ⟨hS_,h0_,h1_,h2_,h3_,h4_,h5_⟩
   have n0_:Aside0 (Kd.R k30 30 w15 w.heap.size (fun _=>True) v120 t119):=⟨h0_⟩
   have n1_:Aside0 (Kd.R Kd.string 9 w15 w.heap.size (fun _=>True) v123 t122):=⟨h1_⟩
   have n2_:Aside0 (Kd.R (Kd.int .i64) 3 w15 w.heap.size (fun _=>True) v126 y125):=⟨h2_⟩
   have n3_:Aside0 (w15.heap[gb115]?=some (.cells #[.string a1_0,.string a1_1,.slice A1_2 l1_2.length c1_2,.slice A1_3 l1_3.length c1_3] 33 (0,0))):=⟨h3_⟩
   have n4_:Aside0 (w15.heap[gb116]?=some (.cells #[.string bz0,.string bz0,.string bz0,.slice none 0 0,.slice none 0 0,.int .i64 0,.int .i64 0,.slice none 0 0] 67 (0,0))):=⟨h4_⟩
   have n5_:Aside0 (Below w.heap.size w w15):=⟨h5_⟩
   clear BK115
   clear BK116
   clear HB
   clear h0_ h1_ h2_ h3_ h4_ h5_
   have HO121:=n0_
   have HO124:=n1_
   have HO127:=n2_
   have BK115:=n3_
   have BK116:=n4_
   have HB:=n5_
   clear n0_ n1_ n2_ n3_ n4_ n5_
   have hHeld:w15.cell? ⟨gb115,0,none⟩=some (.string a1_0)∧w15.cell? ⟨gb115,1,none⟩=some (.string a1_1)∧w15.cell? ⟨gb115,2,none⟩=some (.slice A1_2 l1_2.length c1_2)∧w15.cell? ⟨gb115,3,none⟩=some (.slice A1_3 l1_3.length c1_3):=hS_
   obtain ⟨Ao16,co16,eo16⟩:=Kd.z13 HO127.out
   (first|subst eo16|(injection eo16 with f1_ f2_ f3_;have f4_:=f1_.symm;have f5_:=f3_.symm;clear f1_ f2_ f3_;subst f4_;subst f5_))
   obtain ⟨Ao17,co17,eo17⟩:=Kd.z13 HO124.out
   (first|subst eo17|(injection eo17 with f1_ f2_ f3_;have f4_:=f1_.symm;have f5_:=f3_.symm;clear f1_ f2_ f3_;subst f4_;subst f5_))
   obtain ⟨Ao18,co18,eo18⟩:=Kd.z13 HO121.out
   (first|subst eo18|(injection eo18 with f1_ f2_ f3_;have f4_:=f1_.symm;have f5_:=f3_.symm;clear f1_ f2_ f3_;subst f4_;subst f5_))
   refine norm_ (a':=?_) ?_ ?_
   rotate_left
   ·simp only [putAll,Act.put,zL0,zL1,zL2]
    rfl
   refine pure_ (i:=7) (N:=some 12) (v:=?_) (a':=?_) #[true,true,true,true,true,true,true,true,false] rfl rfl (any_of HT_.out (by kernel_rfl)) (fun _ _ _ h=>h) (Or.inl ⟨by rfl,?_⟩) ?_ ?_
   rotate_left
   ·intro w'
    go_simp
    with_reducible rfl
   rotate_left
   ·simp only [Act.put,zL0,zL1,zL2,i64_w,i32_w]
    rfl
   refine one_ (i:=8) (N:=none) #[true,true,true,true,true,true,true,true,true] rfl rfl (one_of HT_.out (by kernel_rfl)) (by decide) (fun K hK=>?_)
   have hs19:w15.cell? ⟨gb116,0,none⟩=some (.string bz0):=zq1 BK116.out 0
   have hfs19:=zq7 BK116.out 0
   have hns19_0:=NB115_116.out
   have hms19_0:=NB116_115.out
   have hs20:w15.cell? ⟨gb116,1,none⟩=some (.string bz0):=zq1 BK116.out 1
   have hfs20:=zq7 BK116.out 1
   have hns20_0:=NB115_116.out
   have hms20_0:=NB116_115.out
   have hs21:w15.cell? ⟨gb116,2,none⟩=some (.string bz0):=zq1 BK116.out 2
   have hfs21:=zq7 BK116.out 2
   have hns21_0:=NB115_116.out
   have hms21_0:=NB116_115.out
   have hs22:w15.cell? ⟨gb116,3,none⟩=some (.slice none 0 0):=zq1 BK116.out 3
   have hfs22:=zq7 BK116.out 3
   have hns22_0:=NB115_116.out
   have hms22_0:=NB116_115.out
   have hs23:w15.cell? ⟨gb116,4,none⟩=some (.slice none 0 0):=zq1 BK116.out 4
   have hfs23:=zq7 BK116.out 4
   have hns23_0:=NB115_116.out
   have hms23_0:=NB116_115.out
   have hs24:w15.cell? ⟨gb116,5,none⟩=some (.int .i64 0):=zq1 BK116.out 5
   have hfs24:=zq7 BK116.out 5
   have hns24_0:=NB115_116.out
   have hms24_0:=NB116_115.out
   have hs25:w15.cell? ⟨gb116,6,none⟩=some (.int .i64 0):=zq1 BK116.out 6
   have hfs25:=zq7 BK116.out 6
   have hns25_0:=NB115_116.out
   have hms25_0:=NB116_115.out
   have hs26:w15.cell? ⟨gb116,7,none⟩=some (.slice none 0 0):=zq1 BK116.out 7
   have hfs26:=zq7 BK116.out 7
   have hns26_0:=NB115_116.out
   have hms26_0:=NB116_115.out
   refine skip_ (w1:=?_) (by rfl) rfl ?_ ?_
   rotate_left
   ·go_simp
    rfl
   refine hK.out _ _ ⟨((zq20 (p:=⟨gb116,_,none⟩) NB115_116.out _).trans (((zq20 (p:=⟨gb116,_,none⟩) NB115_116.out _).trans (((zq20 (p:=⟨gb116,_,none⟩) NB115_116.out _).trans (((zq20 (p:=⟨gb116,_,none⟩) NB115_116.out _).trans (((zq20 (p:=⟨gb116,_,none⟩) NB115_116.out _).trans (((zq20 (p:=⟨gb116,_,none⟩) NB115_116.out _).trans (((zq20 (p:=⟨gb116,_,none⟩) NB115_116.out _).trans (((zq20 (p:=⟨gb116,_,none⟩) NB115_116.out _).trans (hHeld.1)))))))))))))))),((zq20 (p:=⟨gb116,_,none⟩) NB115_116.out _).trans (((zq20 (p:=⟨gb116,_,none⟩) NB115_116.out _).trans (((zq20 (p:=⟨gb116,_,none⟩) NB115_116.out _).trans (((zq20 (p:=⟨gb116,_,none⟩) NB115_116.out _).trans (((zq20 (p:=⟨gb116,_,none⟩) NB115_116.out _).trans (((zq20 (p:=⟨gb116,_,none⟩) NB115_116.out _).trans (((zq20 (p:=⟨gb116,_,none⟩) NB115_116.out _).trans (((zq20 (p:=⟨gb116,_,none⟩) NB115_116.out _).trans (hHeld.2.1)))))))))))))))),((zq20 (p:=⟨gb116,_,none⟩) NB115_116.out _).trans (((zq20 (p:=⟨gb116,_,none⟩) NB115_116.out _).trans (((zq20 (p:=⟨gb116,_,none⟩) NB115_116.out _).trans (((zq20 (p:=⟨gb116,_,none⟩) NB115_116.out _).trans (((zq20 (p:=⟨gb116,_,none⟩) NB115_116.out _).trans (((zq20 (p:=⟨gb116,_,none⟩) NB115_116.out _).trans (((zq20 (p:=⟨gb116,_,none⟩) NB115_116.out _).trans (((zq20 (p:=⟨gb116,_,none⟩) NB115_116.out _).trans (hHeld.2.2.1)))))))))))))))),((zq20 (p:=⟨gb116,_,none⟩) NB115_116.out _).trans (((zq20 (p:=⟨gb116,_,none⟩) NB115_116.out _).trans (((zq20 (p:=⟨gb116,_,none⟩) NB115_116.out _).trans (((zq20 (p:=⟨gb116,_,none⟩) NB115_116.out _).trans (((zq20 (p:=⟨gb116,_,none⟩) NB115_116.out _).trans (((zq20 (p:=⟨gb116,_,none⟩) NB115_116.out _).trans (((zq20 (p:=⟨gb116,_,none⟩) NB115_116.out _).trans (((zq20 (p:=⟨gb116,_,none⟩) NB115_116.out _).trans (hHeld.2.2.2))))))))))))))))⟩ (fun hHeld=>?_)
   clear hK K
   refine done_ (done_of HT_.out (by kernel_rfl)) ?_
   try go_wp2
   refine bodyPost_ret (results_cell_row rfl _ _ gb116 67 #[.string a0,.string t117,.string t118,.slice Ao18 t119.length co18,.slice Ao17 t122.length co17,.int .i64 0,.int .i64 0,.slice Ao16 y125.length co16] (0,0) _ rfl (by (with_reducible repeat (first|refine zq6 ?_ _|refine zq8 ?_|refine zq5 ?_ _));refine zq18 (cs:=#[.string a0,.string t117,.string t118,.slice Ao18 t119.length co18,.slice Ao17 t122.length co17,.int .i64 0,.int .i64 0,.slice none 0 0]) ?_ 7 _ rfl;(with_reducible repeat (first|refine zq6 ?_ _|refine zq8 ?_|refine zq5 ?_ _));refine zq18 (cs:=#[.string a0,.string t117,.string t118,.slice Ao18 t119.length co18,.slice Ao17 t122.length co17,.int .i64 0,.int .i64 0,.slice none 0 0]) ?_ 6 _ rfl;(with_reducible repeat (first|refine zq6 ?_ _|refine zq8 ?_|refine zq5 ?_ _));refine zq18 (cs:=#[.string a0,.string t117,.string t118,.slice Ao18 t119.length co18,.slice Ao17 t122.length co17,.int .i64 0,.int .i64 0,.slice none 0 0]) ?_ 5 _ rfl;(with_reducible repeat (first|refine zq6 ?_ _|refine zq8 ?_|refine zq5 ?_ _));refine zq18 (cs:=#[.string a0,.string t117,.string t118,.slice Ao18 t119.length co18,.slice none 0 0,.int .i64 0,.int .i64 0,.slice none 0 0]) ?_ 4 _ rfl;(with_reducible repeat (first|refine zq6 ?_ _|refine zq8 ?_|refine zq5 ?_ _));refine zq18 (cs:=#[.string a0,.string t117,.string t118,.slice none 0 0,.slice none 0 0,.int .i64 0,.int .i64 0,.slice none 0 0]) ?_ 3 _ rfl;(with_reducible repeat (first|refine zq6 ?_ _|refine zq8 ?_|refine zq5 ?_ _));refine zq18 (cs:=#[.string a0,.string t117,.string bz0,.slice none 0 0,.slice none 0 0,.int .i64 0,.int .i64 0,.slice none 0 0]) ?_ 2 _ rfl;(with_reducible repeat (first|refine zq6 ?_ _|refine zq8 ?_|refine zq5 ?_ _));refine zq18 (cs:=#[.string a0,.string bz0,.string bz0,.slice none 0 0,.slice none 0 0,.int .i64 0,.int .i64 0,.slice none 0 0]) ?_ 1 _ rfl;(with_reducible repeat (first|refine zq6 ?_ _|refine zq8 ?_|refine zq5 ?_ _));refine zq18 (cs:=#[.string bz0,.string bz0,.string bz0,.slice none 0 0,.slice none 0 0,.int .i64 0,.int .i64 0,.slice none 0 0]) ?_ 0 _ rfl;(with_reducible repeat (first|refine zq6 ?_ _|refine zq8 ?_|refine zq5 ?_ _));exact BK116.out) Tryd.underlying67 rfl (by kernel_rfl)) rfl ?_
   exact ⟨_,_,_,by first|rfl|(simp [zq16,zq17]<;>rfl)|(simp [*,zq16,zq17]<;>rfl),by (with_reducible repeat (first|apply Kd.z4|apply Kd.z7|apply Kd.z6));exact Kd.z11 (Kd.z8 (p:=⟨gb116,7,none⟩) (Kd.z8 (p:=⟨gb116,6,none⟩) (Kd.z8 (p:=⟨gb116,5,none⟩) (Kd.z8 (p:=⟨gb116,4,none⟩) (Kd.z8 (p:=⟨gb116,3,none⟩) (Kd.z8 (p:=⟨gb116,2,none⟩) (Kd.z8 (p:=⟨gb116,1,none⟩) (Kd.z8 (p:=⟨gb116,0,none⟩) (Kd.z14 HO121.out BK116.out (by decide)) (fun _ hk=>hk.2) (.string a0)) (fun _ hk=>hk.2) (.string t117)) (fun _ hk=>hk.2) (.string t118)) (fun _ hk=>hk.2) (.slice Ao18 t119.length co18)) (fun _ hk=>hk.2) (.slice Ao17 t122.length co17)) (fun _ hk=>hk.2) (.int .i64 0)) (fun _ hk=>hk.2) (.int .i64 0)) (fun _ hk=>hk.2) (.slice Ao16 y125.length co16)) (fun _ hk=>trivial),by (with_reducible repeat (first|apply Kd.z4|apply Kd.z7|apply Kd.z6));exact Kd.z11 (Kd.z8 (p:=⟨gb116,7,none⟩) (Kd.z8 (p:=⟨gb116,6,none⟩) (Kd.z8 (p:=⟨gb116,5,none⟩) (Kd.z8 (p:=⟨gb116,4,none⟩) (Kd.z8 (p:=⟨gb116,3,none⟩) (Kd.z8 (p:=⟨gb116,2,none⟩) (Kd.z8 (p:=⟨gb116,1,none⟩) (Kd.z8 (p:=⟨gb116,0,none⟩) (Kd.z14 HO124.out BK116.out (by decide)) (fun _ hk=>hk.2) (.string a0)) (fun _ hk=>hk.2) (.string t117)) (fun _ hk=>hk.2) (.string t118)) (fun _ hk=>hk.2) (.slice Ao18 t119.length co18)) (fun _ hk=>hk.2) (.slice Ao17 t122.length co17)) (fun _ hk=>hk.2) (.int .i64 0)) (fun _ hk=>hk.2) (.int .i64 0)) (fun _ hk=>hk.2) (.slice Ao16 y125.length co16)) (fun _ hk=>trivial),by (with_reducible repeat (first|apply Kd.z4|apply Kd.z7|apply Kd.z6));exact Kd.z11 (Kd.z8 (p:=⟨gb116,7,none⟩) (Kd.z8 (p:=⟨gb116,6,none⟩) (Kd.z8 (p:=⟨gb116,5,none⟩) (Kd.z8 (p:=⟨gb116,4,none⟩) (Kd.z8 (p:=⟨gb116,3,none⟩) (Kd.z8 (p:=⟨gb116,2,none⟩) (Kd.z8 (p:=⟨gb116,1,none⟩) (Kd.z8 (p:=⟨gb116,0,none⟩) (Kd.z14 HO127.out BK116.out (by decide)) (fun _ hk=>hk.2) (.string a0)) (fun _ hk=>hk.2) (.string t117)) (fun _ hk=>hk.2) (.string t118)) (fun _ hk=>hk.2) (.slice Ao18 t119.length co18)) (fun _ hk=>hk.2) (.slice Ao17 t122.length co17)) (fun _ hk=>hk.2) (.int .i64 0)) (fun _ hk=>hk.2) (.int .i64 0)) (fun _ hk=>hk.2) (.slice Ao16 y125.length co16)) (fun _ hk=>trivial),by repeat (first|(with_reducible first|exact HB.out|apply zq4|apply zq0|apply zq3|refine zq2 ?_ GE115.out|refine zq2 ?_ GE116.out)|exact HB.out)⟩
  ·rw [if_neg c5] at H
   exact absurd H (by simp)
 ·rw [if_neg c4] at H
  exact absurd H (by simp)
def spec_CliNew.f (k:Nat) (a0:ByteArray) (a1_0:ByteArray) (a1_1:ByteArray) (l1_2:List (S30)) (l1_3:List ByteArray):Option (ByteArray × ByteArray × ByteArray × (List (S30)) × List ByteArray × Int × Int × List Int):=(spec_l1Domain.f k a0).bind fun t130=>(if t130=true then ((spec_l2Ok.f k a1_0 a1_1 l1_2 l1_3).bind fun t131=>(if t131=true then ((spec_l4New.f a0 a1_0 a1_1 l1_2 l1_3).bind fun bt132=>(some (bt132.1,bt132.2.1,bt132.2.2.1,bt132.2.2.2.1,bt132.2.2.2.2.1,bt132.2.2.2.2.2.1,bt132.2.2.2.2.2.2.1,bt132.2.2.2.2.2.2.2))) else (some ((⟨#[]⟩:ByteArray),(⟨#[]⟩:ByteArray),(⟨#[]⟩:ByteArray),([]:List (S30)),([]:List ByteArray),0,0,([]:List Int))))) else (some ((⟨#[]⟩:ByteArray),(⟨#[]⟩:ByteArray),(⟨#[]⟩:ByteArray),([]:List (S30)),([]:List ByteArray),0,0,([]:List Int))))
set_option maxHeartbeats 8000000 in
set_option maxRecDepth 100000 in
theorem spec_CliNew.calls (k:Nat) (a0:ByteArray) (a1_0:ByteArray) (a1_1:ByteArray) (A1_2:Option Addr) (c1_2:Nat) (l1_2:List (S30)) (A1_3:Option Addr) (c1_3:Nat) (l1_3:List ByteArray) (r1:ByteArray) (r2:ByteArray) (r3:ByteArray) (r4:List (S30)) (r5:List ByteArray) (r6:Int) (r7:Int) (r8:List Int) (w:World) (hr1_2:Kd.C k30 w A1_2 l1_2.length l1_2) (hc1_2:l1_2.length≤c1_2) (hr1_3:Kd.C Kd.string w A1_3 l1_3.length l1_3) (hc1_3:l1_3.length≤c1_3) (h:spec_CliNew.f k a0 a1_0 a1_1 l1_2 l1_3=some (r1,r2,r3,r4,r5,r6,r7,r8)) :
 Calls Tryd.prog 37 #[.string a0,.agg #[.string a1_0,.string a1_1,.slice A1_2 l1_2.length c1_2,.slice A1_3 l1_3.length c1_3]] w fun e w'=>∃ v3_ v4_ v7_:Value,e=.returned (.agg #[.string r1,.string r2,.string r3,v3_,v4_,.int .i64 r6,.int .i64 r7,v7_])∧Kd.R k30 30 w' w.heap.size (fun _=>True) v3_ r4∧Kd.R Kd.string 9 w' w.heap.size (fun _=>True) v4_ r5∧Kd.R (Kd.int .i64) 3 w' w.heap.size (fun _=>True) v7_ r8∧Below w.heap.size w w':=by
 have hu33:=Tryd.underlying33
 have hu67:=Tryd.underlying67
 have HR1_2:=zA hr1_2
 have HC1_2:=zA hc1_2
 clear hr1_2 hc1_2
 have HR1_3:=zA hr1_3
 have HC1_3:=zA hc1_3
 clear hr1_3 hc1_3
 have HB:=zA (Below.refl w.heap.size w)
 have H:((spec_l1Domain.f k a0).bind fun t130=>(if t130=true then ((spec_l2Ok.f k a1_0 a1_1 l1_2 l1_3).bind fun t131=>(if t131=true then ((spec_l4New.f a0 a1_0 a1_1 l1_2 l1_3).bind fun bt132=>(some (bt132.1,bt132.2.1,bt132.2.2.1,bt132.2.2.2.1,bt132.2.2.2.2.1,bt132.2.2.2.2.2.1,bt132.2.2.2.2.2.2.1,bt132.2.2.2.2.2.2.2))) else (some (bz0,bz0,bz0,([]:List (S30)),([]:List ByteArray),0,0,([]:List Int))))) else (some (bz0,bz0,bz0,([]:List (S30)),([]:List ByteArray),0,0,([]:List Int)))))=some (r1,r2,r3,r4,r5,r6,r7,r8):=h
 clear h
 replace H:=Option.bind_eq_some_iff.mp H
 obtain ⟨t130,A30,H⟩:=H
 replace H:(if t130=true then ((spec_l2Ok.f k a1_0 a1_1 l1_2 l1_3).bind fun t131=>(if t131=true then ((spec_l4New.f a0 a1_0 a1_1 l1_2 l1_3).bind fun bt132=>(some (bt132.1,bt132.2.1,bt132.2.2.1,bt132.2.2.2.1,bt132.2.2.2.2.1,bt132.2.2.2.2.2.1,bt132.2.2.2.2.2.2.1,bt132.2.2.2.2.2.2.2))) else (some (bz0,bz0,bz0,([]:List (S30)),([]:List ByteArray),0,0,([]:List Int))))) else (some (bz0,bz0,bz0,([]:List (S30)),([]:List ByteArray),0,0,([]:List Int))))=some (r1,r2,r3,r4,r5,r6,r7,r8):=H
 have A3:=zA A30
 clear A30
 by_cases c4:t130=true
 ·subst c4
  have H1:((spec_l2Ok.f k a1_0 a1_1 l1_2 l1_3).bind fun t131=>(if t131=true then ((spec_l4New.f a0 a1_0 a1_1 l1_2 l1_3).bind fun bt132=>(some (bt132.1,bt132.2.1,bt132.2.2.1,bt132.2.2.2.1,bt132.2.2.2.2.1,bt132.2.2.2.2.2.1,bt132.2.2.2.2.2.2.1,bt132.2.2.2.2.2.2.2))) else (some (bz0,bz0,bz0,([]:List (S30)),([]:List ByteArray),0,0,([]:List Int)))))=some (r1,r2,r3,r4,r5,r6,r7,r8):=by rw [if_pos rfl] at H;exact H
  clear H
  have H:=H1
  clear H1
  replace H:=Option.bind_eq_some_iff.mp H
  obtain ⟨t131,A50,H⟩:=H
  replace H:(if t131=true then ((spec_l4New.f a0 a1_0 a1_1 l1_2 l1_3).bind fun bt132=>(some (bt132.1,bt132.2.1,bt132.2.2.1,bt132.2.2.2.1,bt132.2.2.2.2.1,bt132.2.2.2.2.2.1,bt132.2.2.2.2.2.2.1,bt132.2.2.2.2.2.2.2))) else (some (bz0,bz0,bz0,([]:List (S30)),([]:List ByteArray),0,0,([]:List Int))))=some (r1,r2,r3,r4,r5,r6,r7,r8):=H
  have A5:=zA A50
  clear A50
  by_cases c6:t131=true
  ·subst c6
   have H1:((spec_l4New.f a0 a1_0 a1_1 l1_2 l1_3).bind fun bt132=>(some (bt132.1,bt132.2.1,bt132.2.2.1,bt132.2.2.2.1,bt132.2.2.2.2.1,bt132.2.2.2.2.2.1,bt132.2.2.2.2.2.2.1,bt132.2.2.2.2.2.2.2)))=some (r1,r2,r3,r4,r5,r6,r7,r8):=by rw [if_pos rfl] at H;exact H
   clear H
   have H:=H1
   clear H1
   replace H:=Option.bind_eq_some_iff.mp H
   obtain ⟨⟨t132,t133,t134,t135,t138,t141,t142,t143⟩,A70,H⟩:=H
   replace H:(some (t132,t133,t134,t135,t138,t141,t142,t143))=some (r1,r2,r3,r4,r5,r6,r7,r8):=H
   have A7:=zA A70
   clear A70
   simp only [Option.some.injEq,Prod.mk.injEq] at H
   obtain ⟨rfl,rfl,rfl,rfl,rfl,rfl,rfl,rfl⟩:=H
   go_enter Tryd.func37,Tryd.ntmps37
   go_wp2_with (first|((with_reducible refine zq21 (N:=3) rfl ?_);refine zq23 ?hg (N:=3) ?hd (cs:=#[.string a1_0,.string a1_1,.slice A1_2 l1_2.length c1_2,.slice A1_3 l1_3.length c1_3]) (t:=33) ?hr ?_;(case hd=>rfl);(case hg=>rfl);(case hr=>first|(go_simp;done)|(go_simp;rfl));intro gb128 hg w8 hbox hb;have n0_:=zA (zq11 (by repeat (first|(with_reducible first|exact HB.out|apply zq4|apply zq0|apply zq3)|exact HB.out)) hb);have n1_:=zA (hbox);have n2_:=zA ((by rw [hg];exact (zq14 (by repeat (first|(with_reducible first|exact HB.out|apply zq4|apply zq0|apply zq3)|exact HB.out))):w.heap.size≤gb128));have n3_:=zA ((by rw [hg];exact (zq14 (by repeat (first|(with_reducible first|exact HB.out|apply zq4|apply zq0|apply zq3)|exact HB.out))):w.heap.size≤gb128));clear HB;have HB:=n0_;have BK128:=n1_;have GW128:=n2_;have GE128:=n3_;clear n0_ n1_ n2_ n3_;clear hb hbox hg)|((with_reducible refine zq21 (N:=4) rfl ?_);refine zq23 ?hg (N:=4) ?hd (cs:=#[.string bz0,.string bz0,.string bz0,.slice none 0 0,.slice none 0 0,.int .i64 0,.int .i64 0,.slice none 0 0]) (t:=67) ?hr ?_;(case hd=>rfl);(case hg=>rfl);(case hr=>first|(go_simp;done)|(go_simp;rfl));intro gb129 hg w9 hbox hb;have n0_:=zA (zq13 (by (with_reducible repeat (first|refine zq6 ?_ _|refine zq8 ?_|refine zq5 ?_ _));exact BK128.out) hb);have n1_:=zA (zq11 (by repeat (first|(with_reducible first|exact HB.out|apply zq4|apply zq0|apply zq3|refine zq2 ?_ GE128.out)|exact HB.out)) hb);have n2_:=zA (hbox);have n3_:=zA ((by rw [hg];exact (zq14 (by repeat (first|(with_reducible first|exact HB.out|apply zq4|apply zq0|apply zq3|refine zq2 ?_ GE128.out)|exact HB.out))):w.heap.size≤gb129));have n4_:=zA ((by rw [hg];exact (zq14 (by repeat (first|(with_reducible first|exact HB.out|apply zq4|apply zq0|apply zq3|refine zq2 ?_ GE128.out)|exact HB.out))):w.heap.size≤gb129));have n5_:=zA ((by rw [hg];exact Nat.ne_of_lt (zq25 (g:=gb128) (o:=.cells #[.string a1_0,.string a1_1,.slice A1_2 l1_2.length c1_2,.slice A1_3 l1_3.length c1_3] 33 (0,0)) (by (with_reducible repeat (first|refine zq6 ?_ _|refine zq8 ?_|refine zq5 ?_ _));exact BK128.out)):gb128≠gb129));have n6_:=zA ((by rw [hg];exact Nat.ne_of_gt (zq25 (g:=gb128) (o:=.cells #[.string a1_0,.string a1_1,.slice A1_2 l1_2.length c1_2,.slice A1_3 l1_3.length c1_3] 33 (0,0)) (by (with_reducible repeat (first|refine zq6 ?_ _|refine zq8 ?_|refine zq5 ?_ _));exact BK128.out)):gb129≠gb128));clear BK128;clear HB;have BK128:=n0_;have HB:=n1_;have BK129:=n2_;have GW129:=n3_;have GE129:=n4_;have NB128_129:=n5_;have NB129_128:=n6_;clear n0_ n1_ n2_ n3_ n4_ n5_ n6_;clear hb hbox hg)|((with_reducible refine zq19 (f:=58) rfl ?_);refine goesL_ (some 6) rfl rfl Tryd.func58 (by kernel_rfl) rfl #[.string a0] rfl (by (try simp only [zL3,zL4,zL5]);first|done|rfl|(simp only [zL6,zL7];rfl)) ?_;(with_reducible refine (spec_l1Domain.calls k a0 true _ A3.out).mono ?_);rintro e w10 ⟨rfl,hb⟩;refine ⟨_,rfl,?_⟩;have n0_:=zA (zq13 (by (with_reducible repeat (first|refine zq6 ?_ _|refine zq8 ?_|refine zq5 ?_ _));exact BK128.out) hb);have n1_:=zA (zq13 (by (with_reducible repeat (first|refine zq6 ?_ _|refine zq8 ?_|refine zq5 ?_ _));exact BK129.out) hb);have n2_:=zA (zq11 (by repeat (first|(with_reducible first|exact HB.out|apply zq4|apply zq0|apply zq3|refine zq2 ?_ GE128.out|refine zq2 ?_ GE129.out)|exact HB.out)) hb);clear BK128;clear BK129;clear HB;have BK128:=n0_;have BK129:=n1_;have HB:=n2_;clear n0_ n1_ n2_;(try clear hb);(try clear hk);have hnb11:=NB128_129.out;have hnc11:=NB129_128.out;have hcz12_0:w10.cell? ⟨gb128,0,none⟩=some (.string a1_0):=zq1 BK128.out 0;have hcz12_1:w10.cell? ⟨gb128,1,none⟩=some (.string a1_1):=zq1 BK128.out 1;have hcz12_2:w10.cell? ⟨gb128,2,none⟩=some (.slice A1_2 l1_2.length c1_2):=zq1 BK128.out 2;have hcz12_3:w10.cell? ⟨gb128,3,none⟩=some (.slice A1_3 l1_3.length c1_3):=zq1 BK128.out 3;have hfz12_0:=zq7 BK128.out 0;have hfz12_1:=zq7 BK128.out 1;have hfz12_2:=zq7 BK128.out 2;have hfz12_3:=zq7 BK128.out 3)|(go_at_call 43;(with_reducible refine (spec_l2Ok.calls k a1_0 a1_1 _ _ l1_2 _ _ l1_3 true _ ?side1 ?side2 ?side3 ?side4 A5.out).mono ?_);(case side1=>repeat (first|exact (Kd.z1 HR1_2.out HB.out)|(with_reducible refine Kd.z0 ?_ _)|(with_reducible refine Kd.z3 ?_ _)|(with_reducible refine Kd.z2 ?_)));(case side2=>exact HC1_2.out);(case side3=>repeat (first|exact (Kd.z1 HR1_3.out HB.out)|(with_reducible refine Kd.z0 ?_ _)|(with_reducible refine Kd.z3 ?_ _)|(with_reducible refine Kd.z2 ?_)));(case side4=>exact HC1_3.out);rintro e w13 ⟨rfl,hb⟩;have n0_:=zA (zq13 (by (with_reducible repeat (first|refine zq6 ?_ _|refine zq8 ?_|refine zq5 ?_ _));exact BK128.out) hb);have n1_:=zA (zq13 (by (with_reducible repeat (first|refine zq6 ?_ _|refine zq8 ?_|refine zq5 ?_ _));exact BK129.out) hb);have n2_:=zA (zq11 (by repeat (first|(with_reducible first|exact HB.out|apply zq4|apply zq0|apply zq3|refine zq2 ?_ GE128.out|refine zq2 ?_ GE129.out)|exact HB.out)) hb);clear BK128;clear BK129;clear HB;have BK128:=n0_;have BK129:=n1_;have HB:=n2_;clear n0_ n1_ n2_;(try clear hb);(try clear hk);have hcz14_0:w13.cell? ⟨gb128,0,none⟩=some (.string a1_0):=zq1 BK128.out 0;have hcz14_1:w13.cell? ⟨gb128,1,none⟩=some (.string a1_1):=zq1 BK128.out 1;have hcz14_2:w13.cell? ⟨gb128,2,none⟩=some (.slice A1_2 l1_2.length c1_2):=zq1 BK128.out 2;have hcz14_3:w13.cell? ⟨gb128,3,none⟩=some (.slice A1_3 l1_3.length c1_3):=zq1 BK128.out 3;have hfz14_0:=zq7 BK128.out 0;have hfz14_1:=zq7 BK128.out 1;have hfz14_2:=zq7 BK128.out 2;have hfz14_3:=zq7 BK128.out 3)|((with_reducible refine zq19 (f:=85) rfl ?_);refine goesL_ (some 16) rfl rfl Tryd.func85 (by kernel_rfl) rfl #[.string a0,.agg #[.string a1_0,.string a1_1,.slice A1_2 l1_2.length c1_2,.slice A1_3 l1_3.length c1_3]] rfl (by (try simp only [zL3,zL4,zL5]);first|done|rfl|(simp only [zL6,zL7];rfl)) ?_;(with_reducible refine (spec_l4New.calls a0 a1_0 a1_1 _ _ l1_2 _ _ l1_3 t132 t133 t134 t135 t138 t141 t142 t143 _ ?side1 ?side2 ?side3 ?side4 A7.out).mono ?_);(case side1=>repeat (first|exact (Kd.z1 HR1_2.out HB.out)|(with_reducible refine Kd.z0 ?_ _)|(with_reducible refine Kd.z3 ?_ _)|(with_reducible refine Kd.z2 ?_)));(case side2=>exact HC1_2.out);(case side3=>repeat (first|exact (Kd.z1 HR1_3.out HB.out)|(with_reducible refine Kd.z0 ?_ _)|(with_reducible refine Kd.z3 ?_ _)|(with_reducible refine Kd.z2 ?_)));(case side4=>exact HC1_3.out);rintro e w15 ⟨v136,v139,v144,rfl,ho0,ho1,ho2,hb⟩;refine ⟨_,rfl,?_⟩;have n0_:=zA (Kd.z10 ho0 (zq14 (by repeat (first|(with_reducible first|exact HB.out|apply zq4|apply zq0|apply zq3|refine zq2 ?_ GE128.out|refine zq2 ?_ GE129.out)|exact HB.out))));have n1_:=zA (Kd.z10 ho1 (zq14 (by repeat (first|(with_reducible first|exact HB.out|apply zq4|apply zq0|apply zq3|refine zq2 ?_ GE128.out|refine zq2 ?_ GE129.out)|exact HB.out))));have n2_:=zA (Kd.z10 ho2 (zq14 (by repeat (first|(with_reducible first|exact HB.out|apply zq4|apply zq0|apply zq3|refine zq2 ?_ GE128.out|refine zq2 ?_ GE129.out)|exact HB.out))));have n3_:=zA (zq13 (by (with_reducible repeat (first|refine zq6 ?_ _|refine zq8 ?_|refine zq5 ?_ _));exact BK128.out) hb);have n4_:=zA (zq13 (by (with_reducible repeat (first|refine zq6 ?_ _|refine zq8 ?_|refine zq5 ?_ _));exact BK129.out) hb);have n5_:=zA (zq11 (by repeat (first|(with_reducible first|exact HB.out|apply zq4|apply zq0|apply zq3|refine zq2 ?_ GE128.out|refine zq2 ?_ GE129.out)|exact HB.out)) hb);clear BK128;clear BK129;clear HB;have HO137:=n0_;have HO140:=n1_;have HO145:=n2_;have BK128:=n3_;have BK129:=n4_;have HB:=n5_;clear n0_ n1_ n2_ n3_ n4_ n5_;(try clear hb);(try clear hk);(try clear ho0);(try clear ho1);(try clear ho2);have hcz16_0:w15.cell? ⟨gb129,0,none⟩=some (.string bz0):=zq1 BK129.out 0;have hcz16_1:w15.cell? ⟨gb129,1,none⟩=some (.string bz0):=zq1 BK129.out 1;have hcz16_2:w15.cell? ⟨gb129,2,none⟩=some (.string bz0):=zq1 BK129.out 2;have hcz16_3:w15.cell? ⟨gb129,3,none⟩=some (.slice none 0 0):=zq1 BK129.out 3;have hcz16_4:w15.cell? ⟨gb129,4,none⟩=some (.slice none 0 0):=zq1 BK129.out 4;have hcz16_5:w15.cell? ⟨gb129,5,none⟩=some (.int .i64 0):=zq1 BK129.out 5;have hcz16_6:w15.cell? ⟨gb129,6,none⟩=some (.int .i64 0):=zq1 BK129.out 6;have hcz16_7:w15.cell? ⟨gb129,7,none⟩=some (.slice none 0 0):=zq1 BK129.out 7;have hfz16_0:=zq7 BK129.out 0;have hfz16_1:=zq7 BK129.out 1;have hfz16_2:=zq7 BK129.out 2;have hfz16_3:=zq7 BK129.out 3;have hfz16_4:=zq7 BK129.out 4;have hfz16_5:=zq7 BK129.out 5;have hfz16_6:=zq7 BK129.out 6;have hfz16_7:=zq7 BK129.out 7;obtain ⟨Ao17,co17,eo17⟩:=Kd.z13 HO137.out;subst eo17;obtain ⟨Ao18,co18,eo18⟩:=Kd.z13 HO140.out;subst eo18;obtain ⟨Ao19,co19,eo19⟩:=Kd.z13 HO145.out;subst eo19))
   refine bodyPost_ret (results_cell_row rfl _ _ gb129 67 #[.string t132,.string t133,.string t134,.slice Ao17 t135.length co17,.slice Ao18 t138.length co18,.int .i64 t141,.int .i64 t142,.slice Ao19 t143.length co19] (0,0) _ rfl (by (with_reducible repeat (first|refine zq6 ?_ _|refine zq8 ?_|refine zq5 ?_ _));refine zq18 (cs:=#[.string t132,.string t133,.string t134,.slice Ao17 t135.length co17,.slice Ao18 t138.length co18,.int .i64 t141,.int .i64 t142,.slice none 0 0]) ?_ 7 _ rfl;(with_reducible repeat (first|refine zq6 ?_ _|refine zq8 ?_|refine zq5 ?_ _));refine zq18 (cs:=#[.string t132,.string t133,.string t134,.slice Ao17 t135.length co17,.slice Ao18 t138.length co18,.int .i64 t141,.int .i64 0,.slice none 0 0]) ?_ 6 _ rfl;(with_reducible repeat (first|refine zq6 ?_ _|refine zq8 ?_|refine zq5 ?_ _));refine zq18 (cs:=#[.string t132,.string t133,.string t134,.slice Ao17 t135.length co17,.slice Ao18 t138.length co18,.int .i64 0,.int .i64 0,.slice none 0 0]) ?_ 5 _ rfl;(with_reducible repeat (first|refine zq6 ?_ _|refine zq8 ?_|refine zq5 ?_ _));refine zq18 (cs:=#[.string t132,.string t133,.string t134,.slice Ao17 t135.length co17,.slice none 0 0,.int .i64 0,.int .i64 0,.slice none 0 0]) ?_ 4 _ rfl;(with_reducible repeat (first|refine zq6 ?_ _|refine zq8 ?_|refine zq5 ?_ _));refine zq18 (cs:=#[.string t132,.string t133,.string t134,.slice none 0 0,.slice none 0 0,.int .i64 0,.int .i64 0,.slice none 0 0]) ?_ 3 _ rfl;(with_reducible repeat (first|refine zq6 ?_ _|refine zq8 ?_|refine zq5 ?_ _));refine zq18 (cs:=#[.string t132,.string t133,.string bz0,.slice none 0 0,.slice none 0 0,.int .i64 0,.int .i64 0,.slice none 0 0]) ?_ 2 _ rfl;(with_reducible repeat (first|refine zq6 ?_ _|refine zq8 ?_|refine zq5 ?_ _));refine zq18 (cs:=#[.string t132,.string bz0,.string bz0,.slice none 0 0,.slice none 0 0,.int .i64 0,.int .i64 0,.slice none 0 0]) ?_ 1 _ rfl;(with_reducible repeat (first|refine zq6 ?_ _|refine zq8 ?_|refine zq5 ?_ _));refine zq18 (cs:=#[.string bz0,.string bz0,.string bz0,.slice none 0 0,.slice none 0 0,.int .i64 0,.int .i64 0,.slice none 0 0]) ?_ 0 _ rfl;(with_reducible repeat (first|refine zq6 ?_ _|refine zq8 ?_|refine zq5 ?_ _));exact BK129.out) Tryd.underlying67 rfl (by kernel_rfl)) rfl ?_
   exact ⟨_,_,_,by first|rfl|(simp [zq16,zq17]<;>rfl)|(simp [*,zq16,zq17]<;>rfl),by (with_reducible repeat (first|apply Kd.z4|apply Kd.z7|apply Kd.z6));exact Kd.z11 (Kd.z8 (p:=⟨gb129,7,none⟩) (Kd.z8 (p:=⟨gb129,6,none⟩) (Kd.z8 (p:=⟨gb129,5,none⟩) (Kd.z8 (p:=⟨gb129,4,none⟩) (Kd.z8 (p:=⟨gb129,3,none⟩) (Kd.z8 (p:=⟨gb129,2,none⟩) (Kd.z8 (p:=⟨gb129,1,none⟩) (Kd.z8 (p:=⟨gb129,0,none⟩) (Kd.z14 HO137.out BK129.out (by decide)) (fun _ hk=>hk.2) (.string t132)) (fun _ hk=>hk.2) (.string t133)) (fun _ hk=>hk.2) (.string t134)) (fun _ hk=>hk.2) (.slice Ao17 t135.length co17)) (fun _ hk=>hk.2) (.slice Ao18 t138.length co18)) (fun _ hk=>hk.2) (.int .i64 t141)) (fun _ hk=>hk.2) (.int .i64 t142)) (fun _ hk=>hk.2) (.slice Ao19 t143.length co19)) (fun _ hk=>trivial),by (with_reducible repeat (first|apply Kd.z4|apply Kd.z7|apply Kd.z6));exact Kd.z11 (Kd.z8 (p:=⟨gb129,7,none⟩) (Kd.z8 (p:=⟨gb129,6,none⟩) (Kd.z8 (p:=⟨gb129,5,none⟩) (Kd.z8 (p:=⟨gb129,4,none⟩) (Kd.z8 (p:=⟨gb129,3,none⟩) (Kd.z8 (p:=⟨gb129,2,none⟩) (Kd.z8 (p:=⟨gb129,1,none⟩) (Kd.z8 (p:=⟨gb129,0,none⟩) (Kd.z14 HO140.out BK129.out (by decide)) (fun _ hk=>hk.2) (.string t132)) (fun _ hk=>hk.2) (.string t133)) (fun _ hk=>hk.2) (.string t134)) (fun _ hk=>hk.2) (.slice Ao17 t135.length co17)) (fun _ hk=>hk.2) (.slice Ao18 t138.length co18)) (fun _ hk=>hk.2) (.int .i64 t141)) (fun _ hk=>hk.2) (.int .i64 t142)) (fun _ hk=>hk.2) (.slice Ao19 t143.length co19)) (fun _ hk=>trivial),by (with_reducible repeat (first|apply Kd.z4|apply Kd.z7|apply Kd.z6));exact Kd.z11 (Kd.z8 (p:=⟨gb129,7,none⟩) (Kd.z8 (p:=⟨gb129,6,none⟩) (Kd.z8 (p:=⟨gb129,5,none⟩) (Kd.z8 (p:=⟨gb129,4,none⟩) (Kd.z8 (p:=⟨gb129,3,none⟩) (Kd.z8 (p:=⟨gb129,2,none⟩) (Kd.z8 (p:=⟨gb129,1,none⟩) (Kd.z8 (p:=⟨gb129,0,none⟩) (Kd.z14 HO145.out BK129.out (by decide)) (fun _ hk=>hk.2) (.string t132)) (fun _ hk=>hk.2) (.string t133)) (fun _ hk=>hk.2) (.string t134)) (fun _ hk=>hk.2) (.slice Ao17 t135.length co17)) (fun _ hk=>hk.2) (.slice Ao18 t138.length co18)) (fun _ hk=>hk.2) (.int .i64 t141)) (fun _ hk=>hk.2) (.int .i64 t142)) (fun _ hk=>hk.2) (.slice Ao19 t143.length co19)) (fun _ hk=>trivial),by repeat (first|(with_reducible first|exact HB.out|apply zq4|apply zq0|apply zq3|refine zq2 ?_ GE128.out|refine zq2 ?_ GE129.out)|exact HB.out)⟩
  ·replace c6:=Bool.eq_false_iff.mpr c6
   subst c6
   have H1:(some (bz0,bz0,bz0,([]:List (S30)),([]:List ByteArray),0,0,([]:List Int)))=some (r1,r2,r3,r4,r5,r6,r7,r8):=by rw [if_neg (show ¬ (false=true) by decide)] at H;exact H
   clear H
   have H:=H1
   clear H1
   simp only [Option.some.injEq,Prod.mk.injEq] at H
   obtain ⟨rfl,rfl,rfl,rfl,rfl,rfl,rfl,rfl⟩:=H
   go_enter Tryd.func37,Tryd.ntmps37
   go_wp2_with (first|((with_reducible refine zq21 (N:=3) rfl ?_);refine zq23 ?hg (N:=3) ?hd (cs:=#[.string a1_0,.string a1_1,.slice A1_2 l1_2.length c1_2,.slice A1_3 l1_3.length c1_3]) (t:=33) ?hr ?_;(case hd=>rfl);(case hg=>rfl);(case hr=>first|(go_simp;done)|(go_simp;rfl));intro gb128 hg w20 hbox hb;have n0_:=zA (zq11 (by repeat (first|(with_reducible first|exact HB.out|apply zq4|apply zq0|apply zq3)|exact HB.out)) hb);have n1_:=zA (hbox);have n2_:=zA ((by rw [hg];exact (zq14 (by repeat (first|(with_reducible first|exact HB.out|apply zq4|apply zq0|apply zq3)|exact HB.out))):w.heap.size≤gb128));have n3_:=zA ((by rw [hg];exact (zq14 (by repeat (first|(with_reducible first|exact HB.out|apply zq4|apply zq0|apply zq3)|exact HB.out))):w.heap.size≤gb128));clear HB;have HB:=n0_;have BK128:=n1_;have GW128:=n2_;have GE128:=n3_;clear n0_ n1_ n2_ n3_;clear hb hbox hg)|((with_reducible refine zq21 (N:=4) rfl ?_);refine zq23 ?hg (N:=4) ?hd (cs:=#[.string bz0,.string bz0,.string bz0,.slice none 0 0,.slice none 0 0,.int .i64 0,.int .i64 0,.slice none 0 0]) (t:=67) ?hr ?_;(case hd=>rfl);(case hg=>rfl);(case hr=>first|(go_simp;done)|(go_simp;rfl));intro gb129 hg w21 hbox hb;have n0_:=zA (zq13 (by (with_reducible repeat (first|refine zq6 ?_ _|refine zq8 ?_|refine zq5 ?_ _));exact BK128.out) hb);have n1_:=zA (zq11 (by repeat (first|(with_reducible first|exact HB.out|apply zq4|apply zq0|apply zq3|refine zq2 ?_ GE128.out)|exact HB.out)) hb);have n2_:=zA (hbox);have n3_:=zA ((by rw [hg];exact (zq14 (by repeat (first|(with_reducible first|exact HB.out|apply zq4|apply zq0|apply zq3|refine zq2 ?_ GE128.out)|exact HB.out))):w.heap.size≤gb129));have n4_:=zA ((by rw [hg];exact (zq14 (by repeat (first|(with_reducible first|exact HB.out|apply zq4|apply zq0|apply zq3|refine zq2 ?_ GE128.out)|exact HB.out))):w.heap.size≤gb129));have n5_:=zA ((by rw [hg];exact Nat.ne_of_lt (zq25 (g:=gb128) (o:=.cells #[.string a1_0,.string a1_1,.slice A1_2 l1_2.length c1_2,.slice A1_3 l1_3.length c1_3] 33 (0,0)) (by (with_reducible repeat (first|refine zq6 ?_ _|refine zq8 ?_|refine zq5 ?_ _));exact BK128.out)):gb128≠gb129));have n6_:=zA ((by rw [hg];exact Nat.ne_of_gt (zq25 (g:=gb128) (o:=.cells #[.string a1_0,.string a1_1,.slice A1_2 l1_2.length c1_2,.slice A1_3 l1_3.length c1_3] 33 (0,0)) (by (with_reducible repeat (first|refine zq6 ?_ _|refine zq8 ?_|refine zq5 ?_ _));exact BK128.out)):gb129≠gb128));clear BK128;clear HB;have BK128:=n0_;have HB:=n1_;have BK129:=n2_;have GW129:=n3_;have GE129:=n4_;have NB128_129:=n5_;have NB129_128:=n6_;clear n0_ n1_ n2_ n3_ n4_ n5_ n6_;clear hb hbox hg)|((with_reducible refine zq19 (f:=58) rfl ?_);refine goesL_ (some 6) rfl rfl Tryd.func58 (by kernel_rfl) rfl #[.string a0] rfl (by (try simp only [zL3,zL4,zL5]);first|done|rfl|(simp only [zL6,zL7];rfl)) ?_;(with_reducible refine (spec_l1Domain.calls k a0 true _ A3.out).mono ?_);rintro e w22 ⟨rfl,hb⟩;refine ⟨_,rfl,?_⟩;have n0_:=zA (zq13 (by (with_reducible repeat (first|refine zq6 ?_ _|refine zq8 ?_|refine zq5 ?_ _));exact BK128.out) hb);have n1_:=zA (zq13 (by (with_reducible repeat (first|refine zq6 ?_ _|refine zq8 ?_|refine zq5 ?_ _));exact BK129.out) hb);have n2_:=zA (zq11 (by repeat (first|(with_reducible first|exact HB.out|apply zq4|apply zq0|apply zq3|refine zq2 ?_ GE128.out|refine zq2 ?_ GE129.out)|exact HB.out)) hb);clear BK128;clear BK129;clear HB;have BK128:=n0_;have BK129:=n1_;have HB:=n2_;clear n0_ n1_ n2_;(try clear hb);(try clear hk);have hnb23:=NB128_129.out;have hnc23:=NB129_128.out;have hcz24_0:w22.cell? ⟨gb128,0,none⟩=some (.string a1_0):=zq1 BK128.out 0;have hcz24_1:w22.cell? ⟨gb128,1,none⟩=some (.string a1_1):=zq1 BK128.out 1;have hcz24_2:w22.cell? ⟨gb128,2,none⟩=some (.slice A1_2 l1_2.length c1_2):=zq1 BK128.out 2;have hcz24_3:w22.cell? ⟨gb128,3,none⟩=some (.slice A1_3 l1_3.length c1_3):=zq1 BK128.out 3;have hfz24_0:=zq7 BK128.out 0;have hfz24_1:=zq7 BK128.out 1;have hfz24_2:=zq7 BK128.out 2;have hfz24_3:=zq7 BK128.out 3)|(go_at_call 43;(with_reducible refine (spec_l2Ok.calls k a1_0 a1_1 _ _ l1_2 _ _ l1_3 false _ ?side1 ?side2 ?side3 ?side4 A5.out).mono ?_);(case side1=>repeat (first|exact (Kd.z1 HR1_2.out HB.out)|(with_reducible refine Kd.z0 ?_ _)|(with_reducible refine Kd.z3 ?_ _)|(with_reducible refine Kd.z2 ?_)));(case side2=>exact HC1_2.out);(case side3=>repeat (first|exact (Kd.z1 HR1_3.out HB.out)|(with_reducible refine Kd.z0 ?_ _)|(with_reducible refine Kd.z3 ?_ _)|(with_reducible refine Kd.z2 ?_)));(case side4=>exact HC1_3.out);rintro e w25 ⟨rfl,hb⟩;have n0_:=zA (zq13 (by (with_reducible repeat (first|refine zq6 ?_ _|refine zq8 ?_|refine zq5 ?_ _));exact BK128.out) hb);have n1_:=zA (zq13 (by (with_reducible repeat (first|refine zq6 ?_ _|refine zq8 ?_|refine zq5 ?_ _));exact BK129.out) hb);have n2_:=zA (zq11 (by repeat (first|(with_reducible first|exact HB.out|apply zq4|apply zq0|apply zq3|refine zq2 ?_ GE128.out|refine zq2 ?_ GE129.out)|exact HB.out)) hb);clear BK128;clear BK129;clear HB;have BK128:=n0_;have BK129:=n1_;have HB:=n2_;clear n0_ n1_ n2_;(try clear hb);(try clear hk);have hcz26_0:w25.cell? ⟨gb129,0,none⟩=some (.string bz0):=zq1 BK129.out 0;have hcz26_1:w25.cell? ⟨gb129,1,none⟩=some (.string bz0):=zq1 BK129.out 1;have hcz26_2:w25.cell? ⟨gb129,2,none⟩=some (.string bz0):=zq1 BK129.out 2;have hcz26_3:w25.cell? ⟨gb129,3,none⟩=some (.slice none 0 0):=zq1 BK129.out 3;have hcz26_4:w25.cell? ⟨gb129,4,none⟩=some (.slice none 0 0):=zq1 BK129.out 4;have hcz26_5:w25.cell? ⟨gb129,5,none⟩=some (.int .i64 0):=zq1 BK129.out 5;have hcz26_6:w25.cell? ⟨gb129,6,none⟩=some (.int .i64 0):=zq1 BK129.out 6;have hcz26_7:w25.cell? ⟨gb129,7,none⟩=some (.slice none 0 0):=zq1 BK129.out 7;have hfz26_0:=zq7 BK129.out 0;have hfz26_1:=zq7 BK129.out 1;have hfz26_2:=zq7 BK129.out 2;have hfz26_3:=zq7 BK129.out 3;have hfz26_4:=zq7 BK129.out 4;have hfz26_5:=zq7 BK129.out 5;have hfz26_6:=zq7 BK129.out 6;have hfz26_7:=zq7 BK129.out 7))
   refine bodyPost_ret (results_cell_row rfl _ _ gb129 67 #[.string bz0,.string bz0,.string bz0,.slice none 0 0,.slice none 0 0,.int .i64 0,.int .i64 0,.slice none 0 0] (0,0) _ rfl (by (with_reducible repeat (first|refine zq6 ?_ _|refine zq8 ?_|refine zq5 ?_ _));refine zq18 (cs:=#[.string bz0,.string bz0,.string bz0,.slice none 0 0,.slice none 0 0,.int .i64 0,.int .i64 0,.slice none 0 0]) ?_ 7 _ rfl;(with_reducible repeat (first|refine zq6 ?_ _|refine zq8 ?_|refine zq5 ?_ _));refine zq18 (cs:=#[.string bz0,.string bz0,.string bz0,.slice none 0 0,.slice none 0 0,.int .i64 0,.int .i64 0,.slice none 0 0]) ?_ 6 _ rfl;(with_reducible repeat (first|refine zq6 ?_ _|refine zq8 ?_|refine zq5 ?_ _));refine zq18 (cs:=#[.string bz0,.string bz0,.string bz0,.slice none 0 0,.slice none 0 0,.int .i64 0,.int .i64 0,.slice none 0 0]) ?_ 5 _ rfl;(with_reducible repeat (first|refine zq6 ?_ _|refine zq8 ?_|refine zq5 ?_ _));refine zq18 (cs:=#[.string bz0,.string bz0,.string bz0,.slice none 0 0,.slice none 0 0,.int .i64 0,.int .i64 0,.slice none 0 0]) ?_ 4 _ rfl;(with_reducible repeat (first|refine zq6 ?_ _|refine zq8 ?_|refine zq5 ?_ _));refine zq18 (cs:=#[.string bz0,.string bz0,.string bz0,.slice none 0 0,.slice none 0 0,.int .i64 0,.int .i64 0,.slice none 0 0]) ?_ 3 _ rfl;(with_reducible repeat (first|refine zq6 ?_ _|refine zq8 ?_|refine zq5 ?_ _));refine zq18 (cs:=#[.string bz0,.string bz0,.string bz0,.slice none 0 0,.slice none 0 0,.int .i64 0,.int .i64 0,.slice none 0 0]) ?_ 2 _ rfl;(with_reducible repeat (first|refine zq6 ?_ _|refine zq8 ?_|refine zq5 ?_ _));refine zq18 (cs:=#[.string bz0,.string bz0,.string bz0,.slice none 0 0,.slice none 0 0,.int .i64 0,.int .i64 0,.slice none 0 0]) ?_ 1 _ rfl;(with_reducible repeat (first|refine zq6 ?_ _|refine zq8 ?_|refine zq5 ?_ _));refine zq18 (cs:=#[.string bz0,.string bz0,.string bz0,.slice none 0 0,.slice none 0 0,.int .i64 0,.int .i64 0,.slice none 0 0]) ?_ 0 _ rfl;(with_reducible repeat (first|refine zq6 ?_ _|refine zq8 ?_|refine zq5 ?_ _));exact BK129.out) Tryd.underlying67 rfl (by kernel_rfl)) rfl ?_
   exact ⟨_,_,_,by first|rfl|(simp [zq16,zq17]<;>rfl)|(simp [*,zq16,zq17]<;>rfl),by first|exact Kd.R_nil _ _ _ _ _|exact Kd.N_nil _ _ _ _ _|exact Kd.V_nil _ _ _ _ _|exact Kd.Q_nil _ _ _ _ _|exact Kd.S_nil _ _ _ _ _,by first|exact Kd.R_nil _ _ _ _ _|exact Kd.N_nil _ _ _ _ _|exact Kd.V_nil _ _ _ _ _|exact Kd.Q_nil _ _ _ _ _|exact Kd.S_nil _ _ _ _ _,by first|exact Kd.R_nil _ _ _ _ _|exact Kd.N_nil _ _ _ _ _|exact Kd.V_nil _ _ _ _ _|exact Kd.Q_nil _ _ _ _ _|exact Kd.S_nil _ _ _ _ _,by repeat (first|(with_reducible first|exact HB.out|apply zq4|apply zq0|apply zq3|refine zq2 ?_ GE128.out|refine zq2 ?_ GE129.out)|exact HB.out)⟩
 ·replace c4:=Bool.eq_false_iff.mpr c4
  subst c4
  have H1:(some (bz0,bz0,bz0,([]:List (S30)),([]:List ByteArray),0,0,([]:List Int)))=some (r1,r2,r3,r4,r5,r6,r7,r8):=by rw [if_neg (show ¬ (false=true) by decide)] at H;exact H
  clear H
  have H:=H1
  clear H1
  simp only [Option.some.injEq,Prod.mk.injEq] at H
  obtain ⟨rfl,rfl,rfl,rfl,rfl,rfl,rfl,rfl⟩:=H
  go_enter Tryd.func37,Tryd.ntmps37
  go_wp2_with (first|((with_reducible refine zq21 (N:=3) rfl ?_);refine zq23 ?hg (N:=3) ?hd (cs:=#[.string a1_0,.string a1_1,.slice A1_2 l1_2.length c1_2,.slice A1_3 l1_3.length c1_3]) (t:=33) ?hr ?_;(case hd=>rfl);(case hg=>rfl);(case hr=>first|(go_simp;done)|(go_simp;rfl));intro gb128 hg w27 hbox hb;have n0_:=zA (zq11 (by repeat (first|(with_reducible first|exact HB.out|apply zq4|apply zq0|apply zq3)|exact HB.out)) hb);have n1_:=zA (hbox);have n2_:=zA ((by rw [hg];exact (zq14 (by repeat (first|(with_reducible first|exact HB.out|apply zq4|apply zq0|apply zq3)|exact HB.out))):w.heap.size≤gb128));have n3_:=zA ((by rw [hg];exact (zq14 (by repeat (first|(with_reducible first|exact HB.out|apply zq4|apply zq0|apply zq3)|exact HB.out))):w.heap.size≤gb128));clear HB;have HB:=n0_;have BK128:=n1_;have GW128:=n2_;have GE128:=n3_;clear n0_ n1_ n2_ n3_;clear hb hbox hg)|((with_reducible refine zq21 (N:=4) rfl ?_);refine zq23 ?hg (N:=4) ?hd (cs:=#[.string bz0,.string bz0,.string bz0,.slice none 0 0,.slice none 0 0,.int .i64 0,.int .i64 0,.slice none 0 0]) (t:=67) ?hr ?_;(case hd=>rfl);(case hg=>rfl);(case hr=>first|(go_simp;done)|(go_simp;rfl));intro gb129 hg w28 hbox hb;have n0_:=zA (zq13 (by (with_reducible repeat (first|refine zq6 ?_ _|refine zq8 ?_|refine zq5 ?_ _));exact BK128.out) hb);have n1_:=zA (zq11 (by repeat (first|(with_reducible first|exact HB.out|apply zq4|apply zq0|apply zq3|refine zq2 ?_ GE128.out)|exact HB.out)) hb);have n2_:=zA (hbox);have n3_:=zA ((by rw [hg];exact (zq14 (by repeat (first|(with_reducible first|exact HB.out|apply zq4|apply zq0|apply zq3|refine zq2 ?_ GE128.out)|exact HB.out))):w.heap.size≤gb129));have n4_:=zA ((by rw [hg];exact (zq14 (by repeat (first|(with_reducible first|exact HB.out|apply zq4|apply zq0|apply zq3|refine zq2 ?_ GE128.out)|exact HB.out))):w.heap.size≤gb129));have n5_:=zA ((by rw [hg];exact Nat.ne_of_lt (zq25 (g:=gb128) (o:=.cells #[.string a1_0,.string a1_1,.slice A1_2 l1_2.length c1_2,.slice A1_3 l1_3.length c1_3] 33 (0,0)) (by (with_reducible repeat (first|refine zq6 ?_ _|refine zq8 ?_|refine zq5 ?_ _));exact BK128.out)):gb128≠gb129));have n6_:=zA ((by rw [hg];exact Nat.ne_of_gt (zq25 (g:=gb128) (o:=.cells #[.string a1_0,.string a1_1,.slice A1_2 l1_2.length c1_2,.slice A1_3 l1_3.length c1_3] 33 (0,0)) (by (with_reducible repeat (first|refine zq6 ?_ _|refine zq8 ?_|refine zq5 ?_ _));exact BK128.out)):gb129≠gb128));clear BK128;clear HB;have BK128:=n0_;have HB:=n1_;have BK129:=n2_;have GW129:=n3_;have GE129:=n4_;have NB128_129:=n5_;have NB129_128:=n6_;clear n0_ n1_ n2_ n3_ n4_ n5_ n6_;clear hb hbox hg)|((with_reducible refine zq19 (f:=58) rfl ?_);refine goesL_ (some 6) rfl rfl Tryd.func58 (by kernel_rfl) rfl #[.string a0] rfl (by (try simp only [zL3,zL4,zL5]);first|done|rfl|(simp only [zL6,zL7];rfl)) ?_;(with_reducible refine (spec_l1Domain.calls k a0 false _ A3.out).mono ?_);rintro e w29 ⟨rfl,hb⟩;refine ⟨_,rfl,?_⟩;have n0_:=zA (zq13 (by (with_reducible repeat (first|refine zq6 ?_ _|refine zq8 ?_|refine zq5 ?_ _));exact BK128.out) hb);have n1_:=zA (zq13 (by (with_reducible repeat (first|refine zq6 ?_ _|refine zq8 ?_|refine zq5 ?_ _));exact BK129.out) hb);have n2_:=zA (zq11 (by repeat (first|(with_reducible first|exact HB.out|apply zq4|apply zq0|apply zq3|refine zq2 ?_ GE128.out|refine zq2 ?_ GE129.out)|exact HB.out)) hb);clear BK128;clear BK129;clear HB;have BK128:=n0_;have BK129:=n1_;have HB:=n2_;clear n0_ n1_ n2_;(try clear hb);(try clear hk);have hnb30:=NB129_128.out;have hnc30:=NB128_129.out;have hcz31_0:w29.cell? ⟨gb129,0,none⟩=some (.string bz0):=zq1 BK129.out 0;have hcz31_1:w29.cell? ⟨gb129,1,none⟩=some (.string bz0):=zq1 BK129.out 1;have hcz31_2:w29.cell? ⟨gb129,2,none⟩=some (.string bz0):=zq1 BK129.out 2;have hcz31_3:w29.cell? ⟨gb129,3,none⟩=some (.slice none 0 0):=zq1 BK129.out 3;have hcz31_4:w29.cell? ⟨gb129,4,none⟩=some (.slice none 0 0):=zq1 BK129.out 4;have hcz31_5:w29.cell? ⟨gb129,5,none⟩=some (.int .i64 0):=zq1 BK129.out 5;have hcz31_6:w29.cell? ⟨gb129,6,none⟩=some (.int .i64 0):=zq1 BK129.out 6;have hcz31_7:w29.cell? ⟨gb129,7,none⟩=some (.slice none 0 0):=zq1 BK129.out 7;have hfz31_0:=zq7 BK129.out 0;have hfz31_1:=zq7 BK129.out 1;have hfz31_2:=zq7 BK129.out 2;have hfz31_3:=zq7 BK129.out 3;have hfz31_4:=zq7 BK129.out 4;have hfz31_5:=zq7 BK129.out 5;have hfz31_6:=zq7 BK129.out 6;have hfz31_7:=zq7 BK129.out 7))
  refine bodyPost_ret (results_cell_row rfl _ _ gb129 67 #[.string bz0,.string bz0,.string bz0,.slice none 0 0,.slice none 0 0,.int .i64 0,.int .i64 0,.slice none 0 0] (0,0) _ rfl (by (with_reducible repeat (first|refine zq6 ?_ _|refine zq8 ?_|refine zq5 ?_ _));refine zq18 (cs:=#[.string bz0,.string bz0,.string bz0,.slice none 0 0,.slice none 0 0,.int .i64 0,.int .i64 0,.slice none 0 0]) ?_ 7 _ rfl;(with_reducible repeat (first|refine zq6 ?_ _|refine zq8 ?_|refine zq5 ?_ _));refine zq18 (cs:=#[.string bz0,.string bz0,.string bz0,.slice none 0 0,.slice none 0 0,.int .i64 0,.int .i64 0,.slice none 0 0]) ?_ 6 _ rfl;(with_reducible repeat (first|refine zq6 ?_ _|refine zq8 ?_|refine zq5 ?_ _));refine zq18 (cs:=#[.string bz0,.string bz0,.string bz0,.slice none 0 0,.slice none 0 0,.int .i64 0,.int .i64 0,.slice none 0 0]) ?_ 5 _ rfl;(with_reducible repeat (first|refine zq6 ?_ _|refine zq8 ?_|refine zq5 ?_ _));refine zq18 (cs:=#[.string bz0,.string bz0,.string bz0,.slice none 0 0,.slice none 0 0,.int .i64 0,.int .i64 0,.slice none 0 0]) ?_ 4 _ rfl;(with_reducible repeat (first|refine zq6 ?_ _|refine zq8 ?_|refine zq5 ?_ _));refine zq18 (cs:=#[.string bz0,.string bz0,.string bz0,.slice none 0 0,.slice none 0 0,.int .i64 0,.int .i64 0,.slice none 0 0]) ?_ 3 _ rfl;(with_reducible repeat (first|refine zq6 ?_ _|refine zq8 ?_|refine zq5 ?_ _));refine zq18 (cs:=#[.string bz0,.string bz0,.string bz0,.slice none 0 0,.slice none 0 0,.int .i64 0,.int .i64 0,.slice none 0 0]) ?_ 2 _ rfl;(with_reducible repeat (first|refine zq6 ?_ _|refine zq8 ?_|refine zq5 ?_ _));refine zq18 (cs:=#[.string bz0,.string bz0,.string bz0,.slice none 0 0,.slice none 0 0,.int .i64 0,.int .i64 0,.slice none 0 0]) ?_ 1 _ rfl;(with_reducible repeat (first|refine zq6 ?_ _|refine zq8 ?_|refine zq5 ?_ _));refine zq18 (cs:=#[.string bz0,.string bz0,.string bz0,.slice none 0 0,.slice none 0 0,.int .i64 0,.int .i64 0,.slice none 0 0]) ?_ 0 _ rfl;(with_reducible repeat (first|refine zq6 ?_ _|refine zq8 ?_|refine zq5 ?_ _));exact BK129.out) Tryd.underlying67 rfl (by kernel_rfl)) rfl ?_
  exact ⟨_,_,_,by first|rfl|(simp [zq16,zq17]<;>rfl)|(simp [*,zq16,zq17]<;>rfl),by first|exact Kd.R_nil _ _ _ _ _|exact Kd.N_nil _ _ _ _ _|exact Kd.V_nil _ _ _ _ _|exact Kd.Q_nil _ _ _ _ _|exact Kd.S_nil _ _ _ _ _,by first|exact Kd.R_nil _ _ _ _ _|exact Kd.N_nil _ _ _ _ _|exact Kd.V_nil _ _ _ _ _|exact Kd.Q_nil _ _ _ _ _|exact Kd.S_nil _ _ _ _ _,by first|exact Kd.R_nil _ _ _ _ _|exact Kd.N_nil _ _ _ _ _|exact Kd.V_nil _ _ _ _ _|exact Kd.Q_nil _ _ _ _ _|exact Kd.S_nil _ _ _ _ _,by repeat (first|(with_reducible first|exact HB.out|apply zq4|apply zq0|apply zq3|refine zq2 ?_ GE128.out|refine zq2 ?_ GE129.out)|exact HB.out)⟩
end Go.Proofs.YthkibaldmjfmmaaDoor.Q
