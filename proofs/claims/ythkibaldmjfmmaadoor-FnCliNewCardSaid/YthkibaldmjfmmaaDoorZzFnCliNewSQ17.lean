/- Of a text of ours what this claim needs. -/
import Derived.Test.YthkibaldmjfmmaaDoorZzFnCliNewSQ0
namespace Go.Proofs.YthkibaldmjfmmaaDoor.Q
open Go.RowKit Go.Proofs.YthkibaldmjfmmaaDoorW.PrintWords Go.Proofs.YthkibaldmjfmmaaDoorW.PrintLast Go.Proofs.YthkibaldmjfmmaaDoorW.PrintMore
attribute [local go_sem] max2_int min2_int max_two min_two max_three min_three max_four min_four
set_option linter.unusedVariables false
set_option linter.unusedSimpArgs false
def spec_l2Copy.f (a0_0:ByteArray) (a0_1:ByteArray) (l0_2:List (S30)) (l0_3:List ByteArray):Option (ByteArray × ByteArray × (List (S30)) × List ByteArray):=(some (([]:List (S30)):List (S30))).bind fun y103=>(if y103.length+l0_2.length < 4398046511104 then ((some (([]:List ByteArray):List ByteArray)).bind fun y109=>(if y109.length+l0_3.length < 8796093022208 then (some (a0_0,a0_1,(y103++l0_2),(y109++l0_3))) else (none))) else (none))
def spec_l2Copy.T1:Bool × List (List Nat × List Nat):=(true,[([],[]),([0],[0]),([],[]),([],[]),([3],[3]),([2,4],[2,4]),([],[]),([],[]),([7],[7]),([6,8,5],[6,8]),([1,5,9],[1,5,9]),([10,9,0,1,2,3,4,5,6,7,8,9,10],[10])])
def spec_l2Copy.B1:List Nat:=[0,1,0,0,8,28,0,0,128,508,1023,2047]
theorem spec_l2Copy.tab1:rtab .any (opsOf Tryd.f121 1)=spec_l2Copy.T1:=by kernel_rfl
theorem spec_l2Copy.bits1:waitsOk spec_l2Copy.T1.2 spec_l2Copy.B1=true:=by kernel_rfl
set_option maxHeartbeats 8000000 in
set_option maxRecDepth 100000 in
theorem spec_l2Copy.calls (a0_0:ByteArray) (a0_1:ByteArray) (A0_2:Option Addr) (c0_2:Nat) (l0_2:List (S30)) (A0_3:Option Addr) (c0_3:Nat) (l0_3:List ByteArray) (r1:ByteArray) (r2:ByteArray) (r3:List (S30)) (r4:List ByteArray) (w:World) (hr0_2:Kd.C k30 w A0_2 l0_2.length l0_2) (hc0_2:l0_2.length≤c0_2) (hr0_3:Kd.C Kd.string w A0_3 l0_3.length l0_3) (hc0_3:l0_3.length≤c0_3) (h:spec_l2Copy.f a0_0 a0_1 l0_2 l0_3=some (r1,r2,r3,r4)) :
 Calls Tryd.prog 121 #[.agg #[.string a0_0,.string a0_1,.slice A0_2 l0_2.length c0_2,.slice A0_3 l0_3.length c0_3]] w fun e w'=>∃ v2_ v3_:Value,e=.returned (.agg #[.string r1,.string r2,v2_,v3_])∧Kd.R k30 30 w' w.heap.size (fun _=>True) v2_ r3∧Kd.R Kd.string 9 w' w.heap.size (fun _=>True) v3_ r4∧Below w.heap.size w w':=by
 have hu33:=Tryd.underlying33
 have hu30:=Tryd.underlying30
 have HR0_2:=zA hr0_2
 have HC0_2:=zA hc0_2
 clear hr0_2 hc0_2
 have HR0_3:=zA hr0_3
 have HC0_3:=zA hc0_3
 clear hr0_3 hc0_3
 have HB:=zA (Below.refl w.heap.size w)
 have H:((some (([]:List (S30)):List (S30))).bind fun y103=>(if y103.length+l0_2.length < 4398046511104 then ((some (([]:List ByteArray):List ByteArray)).bind fun y109=>(if y109.length+l0_3.length < 8796093022208 then (some (a0_0,a0_1,(y103++l0_2),(y109++l0_3))) else (none))) else (none)))=some (r1,r2,r3,r4):=h
 clear h
 obtain ⟨y103,hy103⟩:∃ y_:List (S30),y_=(([]:List (S30))):=⟨_,rfl⟩
 replace H:(if y103.length+l0_2.length < 4398046511104 then ((some (([]:List ByteArray):List ByteArray)).bind fun y109=>(if y109.length+l0_3.length < 8796093022208 then (some (a0_0,a0_1,(y103++l0_2),(y109++l0_3))) else (none))) else (none))=some (r1,r2,r3,r4):=by first|(rw [hy103];with_reducible exact H)|(have H2_:=(Option.bind_some _ _).symm.trans H;rw [hy103];with_reducible exact H2_)|(have H2_:=(Option.bind_some _ _).symm.trans H;with_reducible exact H2_)|with_reducible exact H|(rw [hy103];exact H)|exact H
 have Ny103:=zA hy103
 clear hy103
 by_cases c2:y103.length+l0_2.length < 4398046511104
 ·rw [if_pos c2] at H
  have LMc2:=zA c2
  clear c2
  obtain ⟨y106,hy106⟩:∃ y_:List (S30),y_=(y103++l0_2):=⟨_,rfl⟩
  replace H:((some (([]:List ByteArray):List ByteArray)).bind fun y109=>(if y109.length+l0_3.length < 8796093022208 then (some (a0_0,a0_1,y106,(y109++l0_3))) else (none)))=some (r1,r2,r3,r4):=by first|(rw [hy106];with_reducible exact H)|(have H2_:=(Option.bind_some _ _).symm.trans H;rw [hy106];with_reducible exact H2_)|(have H2_:=(Option.bind_some _ _).symm.trans H;with_reducible exact H2_)|with_reducible exact H|(rw [hy106];exact H)|exact H
  have Ny106:=zA hy106
  clear hy106
  obtain ⟨y109,hy109⟩:∃ y_:List ByteArray,y_=(([]:List ByteArray)):=⟨_,rfl⟩
  replace H:(if y109.length+l0_3.length < 8796093022208 then (some (a0_0,a0_1,y106,(y109++l0_3))) else (none))=some (r1,r2,r3,r4):=by first|(rw [hy109];with_reducible exact H)|(have H2_:=(Option.bind_some _ _).symm.trans H;rw [hy109];with_reducible exact H2_)|(have H2_:=(Option.bind_some _ _).symm.trans H;with_reducible exact H2_)|with_reducible exact H|(rw [hy109];exact H)|exact H
  have Ny109:=zA hy109
  clear hy109
  by_cases c3:y109.length+l0_3.length < 8796093022208
  ·rw [if_pos c3] at H
   have LMc3:=zA c3
   clear c3
   obtain ⟨y112,hy112⟩:∃ y_:List ByteArray,y_=(y109++l0_3):=⟨_,rfl⟩
   replace H:(some (a0_0,a0_1,y106,y112))=some (r1,r2,r3,r4):=by first|(rw [hy112];with_reducible exact H)|(have H2_:=(Option.bind_some _ _).symm.trans H;rw [hy112];with_reducible exact H2_)|(have H2_:=(Option.bind_some _ _).symm.trans H;with_reducible exact H2_)|with_reducible exact H|(rw [hy112];exact H)|exact H
   have Ny112:=zA hy112
   clear hy112
   simp only [Option.some.injEq,Prod.mk.injEq] at H
   obtain ⟨rfl,rfl,rfl,rfl⟩:=H
   go_enter Tryd.func121,Tryd.ntmps121
   try go_wp2_with (first|((with_reducible refine zq21 (N:=1) rfl ?_);refine zq23 ?hg (N:=1) ?hd (cs:=#[.string a0_0,.string a0_1,.slice A0_2 l0_2.length c0_2,.slice A0_3 l0_3.length c0_3]) (t:=33) ?hr ?_;(case hd=>rfl);(case hg=>rfl);(case hr=>first|(go_simp;done)|(go_simp;rfl));intro gb101 hg w4 hbox hb;have n0_:=zA (zq11 (by repeat (first|(with_reducible first|exact HB.out|apply zq4|apply zq0|apply zq3)|exact HB.out)) hb);have n1_:=zA (hbox);have n2_:=zA ((by rw [hg];exact (zq14 (by repeat (first|(with_reducible first|exact HB.out|apply zq4|apply zq0|apply zq3)|exact HB.out))):w.heap.size≤gb101));have n3_:=zA ((by rw [hg];exact (zq14 (by repeat (first|(with_reducible first|exact HB.out|apply zq4|apply zq0|apply zq3)|exact HB.out))):w.heap.size≤gb101));clear HB;have HB:=n0_;have BK101:=n1_;have GW101:=n2_;have GE101:=n3_;clear n0_ n1_ n2_ n3_;clear hb hbox hg)|((with_reducible refine zq21 (N:=2) rfl ?_);refine zq23 ?hg (N:=2) ?hd (cs:=#[.string bz0,.string bz0,.slice none 0 0,.slice none 0 0]) (t:=33) ?hr ?_;(case hd=>rfl);(case hg=>rfl);(case hr=>first|(go_simp;done)|(go_simp;rfl));intro gb102 hg w5 hbox hb;have n0_:=zA (zq13 (by (with_reducible repeat (first|refine zq6 ?_ _|refine zq8 ?_|refine zq5 ?_ _));exact BK101.out) hb);have n1_:=zA (zq11 (by repeat (first|(with_reducible first|exact HB.out|apply zq4|apply zq0|apply zq3|refine zq2 ?_ GE101.out)|exact HB.out)) hb);have n2_:=zA (hbox);have n3_:=zA ((by rw [hg];exact (zq14 (by repeat (first|(with_reducible first|exact HB.out|apply zq4|apply zq0|apply zq3|refine zq2 ?_ GE101.out)|exact HB.out))):w.heap.size≤gb102));have n4_:=zA ((by rw [hg];exact (zq14 (by repeat (first|(with_reducible first|exact HB.out|apply zq4|apply zq0|apply zq3|refine zq2 ?_ GE101.out)|exact HB.out))):w.heap.size≤gb102));have n5_:=zA ((by rw [hg];exact Nat.ne_of_lt (zq25 (g:=gb101) (o:=.cells #[.string a0_0,.string a0_1,.slice A0_2 l0_2.length c0_2,.slice A0_3 l0_3.length c0_3] 33 (0,0)) (by (with_reducible repeat (first|refine zq6 ?_ _|refine zq8 ?_|refine zq5 ?_ _));exact BK101.out)):gb101≠gb102));have n6_:=zA ((by rw [hg];exact Nat.ne_of_gt (zq25 (g:=gb101) (o:=.cells #[.string a0_0,.string a0_1,.slice A0_2 l0_2.length c0_2,.slice A0_3 l0_3.length c0_3] 33 (0,0)) (by (with_reducible repeat (first|refine zq6 ?_ _|refine zq8 ?_|refine zq5 ?_ _));exact BK101.out)):gb102≠gb101));clear BK101;clear HB;have BK101:=n0_;have HB:=n1_;have BK102:=n2_;have GW102:=n3_;have GE102:=n4_;have NB101_102:=n5_;have NB102_101:=n6_;clear n0_ n1_ n2_ n3_ n4_ n5_ n6_;clear hb hbox hg))
   have n0_:=zA (zq8 BK101.out)
   have n1_:=zA (zq8 BK102.out)
   have n2_:=zA (zq3 HB.out)
   clear BK101
   clear BK102
   clear HB
   have BK101:=n0_
   have BK102:=n1_
   have HB:=n2_
   clear n0_ n1_ n2_
   refine start_ (n:=12) (S:=fun w'=>w'.cell? ⟨gb101,0,none⟩=some (.string a0_0)∧w'.cell? ⟨gb101,1,none⟩=some (.string a0_1)∧w'.cell? ⟨gb101,2,none⟩=some (.slice A0_2 l0_2.length c0_2)∧w'.cell? ⟨gb101,3,none⟩=some (.slice A0_3 l0_3.length c0_3)) (ds:=[]) #[false,false,false,false,false,false,false,false,false,false,false,false] (by kernel_rfl) rfl rfl ⟨zq1 BK101.out 0,zq1 BK101.out 1,zq1 BK101.out 2,zq1 BK101.out 3⟩ (fun hHeld=>?_);refine with_tabW spec_l2Copy.tab1 spec_l2Copy.bits1 (fun HT_ HW_=>?_)
   generalize w5.drew=w6 at BK101 BK102 HB hHeld ⊢
   refine pure_ (i:=0) (N:=some 3) (v:=?_) (a':=?_) #[true,false,false,false,false,false,false,false,false,false,false,false] rfl rfl (any_of HT_.out (by kernel_rfl)) (fun _ _ _ h=>h) (Or.inl ⟨by rfl,?_⟩) ?_ ?_
   rotate_left
   ·intro w'
    go_simp
    with_reducible rfl
   rotate_left
   ·simp only [Act.put,zL0,zL1,zL2,i64_w,i32_w]
    rfl
   refine pure_ (i:=3) (N:=some 6) (v:=?_) (a':=?_) #[true,false,false,true,false,false,false,false,false,false,false,false] rfl rfl (any_of HT_.out (by kernel_rfl)) (fun _ _ _ h=>h) (Or.inl ⟨by rfl,?_⟩) ?_ ?_
   rotate_left
   ·intro w'
    go_simp
    with_reducible rfl
   rotate_left
   ·simp only [Act.put,zL0,zL1,zL2,i64_w,i32_w]
    rfl
   refine pure_ (i:=7) (N:=some 10) (v:=?_) (a':=?_) #[true,false,false,true,false,false,false,true,false,false,false,false] rfl rfl (any_of HT_.out (by kernel_rfl)) (fun _ _ _ h=>h) (Or.inl ⟨by rfl,?_⟩) ?_ ?_
   rotate_left
   ·intro w'
    go_simp
    with_reducible rfl
   rotate_left
   ·simp only [Act.put,zL0,zL1,zL2,i64_w,i32_w]
    rfl
   refine take_ (i:=1) (N:=some 4) (v:=?_) (a':=?_) #[true,true,false,true,false,false,false,true,false,false,false,false] rfl rfl (take_ofW HT_.out HW_.out (by kernel_rfl)) (fun _ _ _ h=>h) (Or.inl ⟨by rfl,?_⟩) hHeld ?_ ?_
   rotate_left
   ·rintro w' ⟨s0,s1,s2,s3⟩
    go_simp
    with_reducible rfl
   rotate_left
   ·simp only [Act.put,zL0,zL1,zL2,i64_w,i32_w]
    rfl
   refine take_ (i:=4) (N:=some 7) (v:=?_) (a':=?_) #[true,true,false,true,true,false,false,true,false,false,false,false] rfl rfl (take_ofW HT_.out HW_.out (by kernel_rfl)) (fun _ _ _ h=>h) (Or.inl ⟨by rfl,?_⟩) hHeld ?_ ?_
   rotate_left
   ·rintro w' ⟨s0,s1,s2,s3⟩
    go_simp
    with_reducible rfl
   rotate_left
   ·simp only [Act.put,zL0,zL1,zL2,i64_w,i32_w]
    rfl
   refine take_ (i:=8) (N:=some 11) (v:=?_) (a':=?_) #[true,true,false,true,true,false,false,true,true,false,false,false] rfl rfl (take_ofW HT_.out HW_.out (by kernel_rfl)) (fun _ _ _ h=>h) (Or.inl ⟨by rfl,?_⟩) hHeld ?_ ?_
   rotate_left
   ·rintro w' ⟨s0,s1,s2,s3⟩
    go_simp
    with_reducible rfl
   rotate_left
   ·simp only [Act.put,zL0,zL1,zL2,i64_w,i32_w]
    rfl
   refine join_ (σ:=Value × Value × Value) 3 #[true,true,true,true,true,true,true,true,true,false,false,false] (fun s_=>[(5,s_.1),(8,s_.2.1),(9,s_.2.2)]) (fun s_ w'=>(w'.cell? ⟨gb101,0,none⟩=some (.string a0_0)∧w'.cell? ⟨gb101,1,none⟩=some (.string a0_1)∧w'.cell? ⟨gb101,2,none⟩=some (.slice A0_2 l0_2.length c0_2)∧w'.cell? ⟨gb101,3,none⟩=some (.slice A0_3 l0_3.length c0_3))∧(Kd.R k30 30 w' w.heap.size (fun _=>True) s_.2.1 y106)∧(Kd.R Kd.string 9 w' w.heap.size (fun _=>True) s_.2.2 y109)∧(w'.heap[gb101]?=some (.cells #[.string a0_0,.string a0_1,.slice A0_2 l0_2.length c0_2,.slice A0_3 l0_3.length c0_3] 33 (0,0)))∧(w'.heap[gb102]?=some (.cells #[.string bz0,.string bz0,.slice none 0 0,.slice none 0 0] 33 (0,0)))∧(Below w.heap.size w w')) ?_ ?_
   rotate_left
   ·intro hCont
    refine two_ (i:=2) (j:=6) (Ni:=some 5) (Nj:=some 9) #[true,true,true,true,true,false,false,true,true,false,false,false] #[true,true,false,true,true,false,true,true,true,false,false,false] rfl rfl rfl rfl (two_of HT_.out (by kernel_rfl)) (by decide) (by decide) (fun K hK=>?_) (fun K hK=>?_)
    ·skip
     refine Kd.R_lit_step k30 _ 30 ?hg (N:=5) ?hd (xs:=([]:List (S30))) (inner:=[]) (ok:=fun _=>True) (okp:=fun _=>True) ?hr ?hp (fun _ hk=>hk) trivial (Below.refl _ _) (Nat.le_refl _) (by simp) ?_;(case hd=>rfl);(case hg=>rfl);(case hr=>first|(go_simp;done)|(go_simp;rfl));(case hp=>exact (Reps.none _ _))
     intro v104 w7 ho8 hb hg_ hnew_
     clear hg_ hnew_
     (first|rw [← Ny103.out] at ho8|(simp only [Int.reduceToNat] at ho8;rw [← Ny103.out] at ho8))
     have n0_:=zA (Kd.z10 ho8 (zq14 (by repeat (first|(with_reducible first|exact HB.out|apply zq4|apply zq0|apply zq3|refine zq2 ?_ GE101.out|refine zq2 ?_ GE102.out)|exact HB.out))))
     have n1_:=zA (zq13 (by (with_reducible repeat (first|refine zq6 ?_ _|refine zq8 ?_|refine zq5 ?_ _));exact BK101.out) hb)
     have n2_:=zA (zq13 (by (with_reducible repeat (first|refine zq6 ?_ _|refine zq8 ?_|refine zq5 ?_ _));exact BK102.out) hb)
     have n3_:=zA (zq11 (by repeat (first|(with_reducible first|exact HB.out|apply zq4|apply zq0|apply zq3|refine zq2 ?_ GE101.out|refine zq2 ?_ GE102.out)|exact HB.out)) hb)
     clear BK101
     clear BK102
     clear HB
     have HO105:=n0_
     have BK101:=n1_
     have BK102:=n2_
     have HB:=n3_
     clear n0_ n1_ n2_ n3_
     clear hb ho8
     refine hK.out _ _ ⟨zq1 BK101.out 0,zq1 BK101.out 1,zq1 BK101.out 2,zq1 BK101.out 3⟩ (fun hHeld=>?_)
     clear hK K
     refine norm_ (a':=?_) ?_ ?_
     rotate_left
     ·show Act.put _ (some 5) _=_
      simp only [Act.put,zL0,zL1,zL2,i64_w,i32_w]
      rfl
     refine two_ (i:=5) (j:=6) (Ni:=some 8) (Nj:=some 9) #[true,true,true,true,true,true,false,true,true,false,false,false] #[true,true,true,true,true,false,true,true,true,false,false,false] rfl rfl rfl rfl (two_of HT_.out (by kernel_rfl)) (by decide) (by decide) (fun K hK=>?_) (fun K hK=>?_)
     ·skip
      refine Kd.R_append_rows_step k30 (w0:=w) w.heap.size (by rfl) (.tmp 5) (.tmp 7) 31 30 (.agg #[(.string ⟨#[]⟩),(.string ⟨#[]⟩)]) 32 rfl Tryd.underlying31 info30 rfl (by decide) (by omega) v104 y103 l0_2 _ _ _ (fun _=>True) (fun _=>False) rfl rfl ?aO ?aR (fun _ _ h=>h) (fun _ h=>h.elim) ?aF ?aB ?aS ?aL ?_
      (case aR=>repeat (first|exact (Kd.z1 HR0_2.out HB.out)|(with_reducible refine Kd.z0 ?_ _)|(with_reducible refine Kd.z3 ?_ _)|(with_reducible refine Kd.z2 ?_)))
      (case aB=>exact (by repeat (first|(with_reducible first|exact HB.out|apply zq4|apply zq0|apply zq3|refine zq2 ?_ GE101.out|refine zq2 ?_ GE102.out)|exact HB.out)))
      (case aF=>exact (fun _ _=>trivial))
      (case aO=>exact (by (with_reducible repeat (first|apply Kd.z4|apply Kd.z7|apply Kd.z6));exact HO105.out))
      (case aS=>exact (zq14 (by repeat (first|(with_reducible first|exact HB.out|apply zq4|apply zq0|apply zq3|refine zq2 ?_ GE101.out|refine zq2 ?_ GE102.out)|exact HB.out))))
      (case aL=>have:=LMc2.out;omega)
      intro v107 w9 ho hb hg hat
      rw [← Ny106.out] at ho
      have n0_:=zA (blk_grown (by (with_reducible repeat (first|refine zq6 ?_ _|refine zq8 ?_|refine zq5 ?_ _));exact BK101.out) hg (Kd.R_ne HO105.out BK101.out (by decide)))
      have n1_:=zA (blk_grown (by (with_reducible repeat (first|refine zq6 ?_ _|refine zq8 ?_|refine zq5 ?_ _));exact BK102.out) hg (Kd.R_ne HO105.out BK102.out (by decide)))
      have n2_:=zA (hb)
      have n3_:=zA (ho)
      clear BK101
      clear BK102
      clear HB
      clear HO105
      have BK101:=n0_
      have BK102:=n1_
      have HB:=n2_
      have HO108:=n3_
      clear n0_ n1_ n2_ n3_
      clear ho hb hg hat
      refine hK.out _ _ ⟨zq1 BK101.out 0,zq1 BK101.out 1,zq1 BK101.out 2,zq1 BK101.out 3⟩ (fun hHeld=>?_)
      clear hK K
      refine norm_ (a':=?_) ?_ ?_
      rotate_left
      ·show Act.put _ (some 8) _=_
       simp only [Act.put,zL0,zL1,zL2,i64_w,i32_w]
       rfl
      refine one_ (i:=6) (N:=some 9) #[true,true,true,true,true,true,true,true,true,false,false,false] rfl rfl (one_of HT_.out (by kernel_rfl)) (by decide) (fun K hK=>?_)
      refine Kd.R_lit_step Kd.string _ 9 ?hg (N:=9) ?hd (xs:=([]:List ByteArray)) (inner:=[]) (ok:=fun _=>True) (okp:=fun _=>True) ?hr ?hp (fun _ hk=>hk) trivial (Below.refl _ _) (Nat.le_refl _) (by simp) ?_;(case hd=>rfl);(case hg=>rfl);(case hr=>first|(go_simp;done)|(go_simp;rfl));(case hp=>exact (Reps.none _ _))
      intro v110 w10 ho11 hb hg_ hnew_
      clear hg_ hnew_
      (first|rw [← Ny109.out] at ho11|(simp only [Int.reduceToNat] at ho11;rw [← Ny109.out] at ho11))
      have n0_:=zA (Kd.z5 (by (with_reducible repeat (first|apply Kd.z4|apply Kd.z7|apply Kd.z6));exact HO108.out) hb)
      have n1_:=zA (Kd.z10 ho11 (zq14 (by repeat (first|(with_reducible first|exact HB.out|apply zq4|apply zq0|apply zq3|refine zq2 ?_ GE101.out|refine zq2 ?_ GE102.out)|exact HB.out))))
      have n2_:=zA (zq13 (by (with_reducible repeat (first|refine zq6 ?_ _|refine zq8 ?_|refine zq5 ?_ _));exact BK101.out) hb)
      have n3_:=zA (zq13 (by (with_reducible repeat (first|refine zq6 ?_ _|refine zq8 ?_|refine zq5 ?_ _));exact BK102.out) hb)
      have n4_:=zA (zq11 (by repeat (first|(with_reducible first|exact HB.out|apply zq4|apply zq0|apply zq3|refine zq2 ?_ GE101.out|refine zq2 ?_ GE102.out)|exact HB.out)) hb)
      clear HO108
      clear BK101
      clear BK102
      clear HB
      have HO108:=n0_
      have HO111:=n1_
      have BK101:=n2_
      have BK102:=n3_
      have HB:=n4_
      clear n0_ n1_ n2_ n3_ n4_
      clear hb ho11
      refine hK.out _ _ ⟨zq1 BK101.out 0,zq1 BK101.out 1,zq1 BK101.out 2,zq1 BK101.out 3⟩ (fun hHeld=>?_)
      clear hK K
      refine norm_ (a':=?_) ?_ ?_
      rotate_left
      ·show Act.put _ (some 9) _=_
       simp only [Act.put,zL0,zL1,zL2,i64_w,i32_w]
       rfl
      exact norm_ (by simp only [putAll,Act.put,zL0,zL1,zL2]) (hCont (v104,v107,v110) _ ⟨hHeld,(by (with_reducible repeat (first|apply Kd.z4|apply Kd.z7|apply Kd.z6));exact HO108.out),(by (with_reducible repeat (first|apply Kd.z4|apply Kd.z7|apply Kd.z6));exact HO111.out),(by (with_reducible repeat (first|refine zq6 ?_ _|refine zq8 ?_|refine zq5 ?_ _));exact BK101.out),(by (with_reducible repeat (first|refine zq6 ?_ _|refine zq8 ?_|refine zq5 ?_ _));exact BK102.out),(by repeat (first|(with_reducible first|exact HB.out|apply zq4|apply zq0|apply zq3|refine zq2 ?_ GE101.out|refine zq2 ?_ GE102.out)|exact HB.out))⟩)
     ·skip
      refine Kd.R_lit_step Kd.string _ 9 ?hg (N:=9) ?hd (xs:=([]:List ByteArray)) (inner:=[]) (ok:=fun _=>True) (okp:=fun _=>True) ?hr ?hp (fun _ hk=>hk) trivial (Below.refl _ _) (Nat.le_refl _) (by simp) ?_;(case hd=>rfl);(case hg=>rfl);(case hr=>first|(go_simp;done)|(go_simp;rfl));(case hp=>exact (Reps.none _ _))
      intro v110 w9 ho10 hb hg_ hnew_
      clear hg_ hnew_
      (first|rw [← Ny109.out] at ho10|(simp only [Int.reduceToNat] at ho10;rw [← Ny109.out] at ho10))
      have n0_:=zA (Kd.z5 (by (with_reducible repeat (first|apply Kd.z4|apply Kd.z7|apply Kd.z6));exact HO105.out) hb)
      have n1_:=zA (Kd.z10 ho10 (zq14 (by repeat (first|(with_reducible first|exact HB.out|apply zq4|apply zq0|apply zq3|refine zq2 ?_ GE101.out|refine zq2 ?_ GE102.out)|exact HB.out))))
      have n2_:=zA (zq13 (by (with_reducible repeat (first|refine zq6 ?_ _|refine zq8 ?_|refine zq5 ?_ _));exact BK101.out) hb)
      have n3_:=zA (zq13 (by (with_reducible repeat (first|refine zq6 ?_ _|refine zq8 ?_|refine zq5 ?_ _));exact BK102.out) hb)
      have n4_:=zA (zq11 (by repeat (first|(with_reducible first|exact HB.out|apply zq4|apply zq0|apply zq3|refine zq2 ?_ GE101.out|refine zq2 ?_ GE102.out)|exact HB.out)) hb)
      clear HO105
      clear BK101
      clear BK102
      clear HB
      have HO105:=n0_
      have HO111:=n1_
      have BK101:=n2_
      have BK102:=n3_
      have HB:=n4_
      clear n0_ n1_ n2_ n3_ n4_
      clear hb ho10
      refine hK.out _ _ ⟨zq1 BK101.out 0,zq1 BK101.out 1,zq1 BK101.out 2,zq1 BK101.out 3⟩ (fun hHeld=>?_)
      clear hK K
      refine norm_ (a':=?_) ?_ ?_
      rotate_left
      ·show Act.put _ (some 9) _=_
       simp only [Act.put,zL0,zL1,zL2,i64_w,i32_w]
       rfl
      refine one_ (i:=5) (N:=some 8) #[true,true,true,true,true,true,true,true,true,false,false,false] rfl rfl (one_of HT_.out (by kernel_rfl)) (by decide) (fun K hK=>?_)
      refine Kd.R_append_rows_step k30 (w0:=w) w.heap.size (by rfl) (.tmp 5) (.tmp 7) 31 30 (.agg #[(.string ⟨#[]⟩),(.string ⟨#[]⟩)]) 32 rfl Tryd.underlying31 info30 rfl (by decide) (by omega) v104 y103 l0_2 _ _ _ (fun _=>True) (fun _=>False) rfl rfl ?aO ?aR (fun _ _ h=>h) (fun _ h=>h.elim) ?aF ?aB ?aS ?aL ?_
      (case aR=>repeat (first|exact (Kd.z1 HR0_2.out HB.out)|(with_reducible refine Kd.z0 ?_ _)|(with_reducible refine Kd.z3 ?_ _)|(with_reducible refine Kd.z2 ?_)))
      (case aB=>exact (by repeat (first|(with_reducible first|exact HB.out|apply zq4|apply zq0|apply zq3|refine zq2 ?_ GE101.out|refine zq2 ?_ GE102.out)|exact HB.out)))
      (case aF=>exact (fun _ _=>trivial))
      (case aO=>exact (by (with_reducible repeat (first|apply Kd.z4|apply Kd.z7|apply Kd.z6));exact HO105.out))
      (case aS=>exact (zq14 (by repeat (first|(with_reducible first|exact HB.out|apply zq4|apply zq0|apply zq3|refine zq2 ?_ GE101.out|refine zq2 ?_ GE102.out)|exact HB.out))))
      (case aL=>have:=LMc2.out;omega)
      intro v107 w11 ho hb hg hat
      rw [← Ny106.out] at ho
      have n0_:=zA (blk_grown (by (with_reducible repeat (first|refine zq6 ?_ _|refine zq8 ?_|refine zq5 ?_ _));exact BK101.out) hg (Kd.R_ne HO105.out BK101.out (by decide)))
      have n1_:=zA (blk_grown (by (with_reducible repeat (first|refine zq6 ?_ _|refine zq8 ?_|refine zq5 ?_ _));exact BK102.out) hg (Kd.R_ne HO105.out BK102.out (by decide)))
      have n2_:=zA (Kd.R_over' (by (with_reducible repeat (first|apply Kd.z4|apply Kd.z7|apply Kd.z6));exact HO111.out) (Kd.R_typed (by (with_reducible repeat (first|apply Kd.z4|apply Kd.z7|apply Kd.z6));exact HO105.out)) (by decide) hg)
      have n3_:=zA (hb)
      have n4_:=zA (ho)
      clear BK101
      clear BK102
      clear HO111
      clear HB
      clear HO105
      have BK101:=n0_
      have BK102:=n1_
      have HO111:=n2_
      have HB:=n3_
      have HO108:=n4_
      clear n0_ n1_ n2_ n3_ n4_
      clear ho hb hg hat
      refine hK.out _ _ ⟨zq1 BK101.out 0,zq1 BK101.out 1,zq1 BK101.out 2,zq1 BK101.out 3⟩ (fun hHeld=>?_)
      clear hK K
      refine norm_ (a':=?_) ?_ ?_
      rotate_left
      ·show Act.put _ (some 8) _=_
       simp only [Act.put,zL0,zL1,zL2,i64_w,i32_w]
       rfl
      exact norm_ (by simp only [putAll,Act.put,zL0,zL1,zL2]) (hCont (v104,v107,v110) _ ⟨hHeld,(by (with_reducible repeat (first|apply Kd.z4|apply Kd.z7|apply Kd.z6));exact HO108.out),(by (with_reducible repeat (first|apply Kd.z4|apply Kd.z7|apply Kd.z6));exact HO111.out),(by (with_reducible repeat (first|refine zq6 ?_ _|refine zq8 ?_|refine zq5 ?_ _));exact BK101.out),(by (with_reducible repeat (first|refine zq6 ?_ _|refine zq8 ?_|refine zq5 ?_ _));exact BK102.out),(by repeat (first|(with_reducible first|exact HB.out|apply zq4|apply zq0|apply zq3|refine zq2 ?_ GE101.out|refine zq2 ?_ GE102.out)|exact HB.out))⟩)
    ·skip
     refine Kd.R_lit_step Kd.string _ 9 ?hg (N:=9) ?hd (xs:=([]:List ByteArray)) (inner:=[]) (ok:=fun _=>True) (okp:=fun _=>True) ?hr ?hp (fun _ hk=>hk) trivial (Below.refl _ _) (Nat.le_refl _) (by simp) ?_;(case hd=>rfl);(case hg=>rfl);(case hr=>first|(go_simp;done)|(go_simp;rfl));(case hp=>exact (Reps.none _ _))
     intro v110 w7 ho8 hb hg_ hnew_
     clear hg_ hnew_
     (first|rw [← Ny109.out] at ho8|(simp only [Int.reduceToNat] at ho8;rw [← Ny109.out] at ho8))
     have n0_:=zA (Kd.z10 ho8 (zq14 (by repeat (first|(with_reducible first|exact HB.out|apply zq4|apply zq0|apply zq3|refine zq2 ?_ GE101.out|refine zq2 ?_ GE102.out)|exact HB.out))))
     have n1_:=zA (zq13 (by (with_reducible repeat (first|refine zq6 ?_ _|refine zq8 ?_|refine zq5 ?_ _));exact BK101.out) hb)
     have n2_:=zA (zq13 (by (with_reducible repeat (first|refine zq6 ?_ _|refine zq8 ?_|refine zq5 ?_ _));exact BK102.out) hb)
     have n3_:=zA (zq11 (by repeat (first|(with_reducible first|exact HB.out|apply zq4|apply zq0|apply zq3|refine zq2 ?_ GE101.out|refine zq2 ?_ GE102.out)|exact HB.out)) hb)
     clear BK101
     clear BK102
     clear HB
     have HO111:=n0_
     have BK101:=n1_
     have BK102:=n2_
     have HB:=n3_
     clear n0_ n1_ n2_ n3_
     clear hb ho8
     refine hK.out _ _ ⟨zq1 BK101.out 0,zq1 BK101.out 1,zq1 BK101.out 2,zq1 BK101.out 3⟩ (fun hHeld=>?_)
     clear hK K
     refine norm_ (a':=?_) ?_ ?_
     rotate_left
     ·show Act.put _ (some 9) _=_
      simp only [Act.put,zL0,zL1,zL2,i64_w,i32_w]
      rfl
     refine one_ (i:=2) (N:=some 5) #[true,true,true,true,true,false,true,true,true,false,false,false] rfl rfl (one_of HT_.out (by kernel_rfl)) (by decide) (fun K hK=>?_)
     refine Kd.R_lit_step k30 _ 30 ?hg (N:=5) ?hd (xs:=([]:List (S30))) (inner:=[]) (ok:=fun _=>True) (okp:=fun _=>True) ?hr ?hp (fun _ hk=>hk) trivial (Below.refl _ _) (Nat.le_refl _) (by simp) ?_;(case hd=>rfl);(case hg=>rfl);(case hr=>first|(go_simp;done)|(go_simp;rfl));(case hp=>exact (Reps.none _ _))
     intro v104 w9 ho10 hb hg_ hnew_
     clear hg_ hnew_
     (first|rw [← Ny103.out] at ho10|(simp only [Int.reduceToNat] at ho10;rw [← Ny103.out] at ho10))
     have n0_:=zA (Kd.z5 (by (with_reducible repeat (first|apply Kd.z4|apply Kd.z7|apply Kd.z6));exact HO111.out) hb)
     have n1_:=zA (Kd.z10 ho10 (zq14 (by repeat (first|(with_reducible first|exact HB.out|apply zq4|apply zq0|apply zq3|refine zq2 ?_ GE101.out|refine zq2 ?_ GE102.out)|exact HB.out))))
     have n2_:=zA (zq13 (by (with_reducible repeat (first|refine zq6 ?_ _|refine zq8 ?_|refine zq5 ?_ _));exact BK101.out) hb)
     have n3_:=zA (zq13 (by (with_reducible repeat (first|refine zq6 ?_ _|refine zq8 ?_|refine zq5 ?_ _));exact BK102.out) hb)
     have n4_:=zA (zq11 (by repeat (first|(with_reducible first|exact HB.out|apply zq4|apply zq0|apply zq3|refine zq2 ?_ GE101.out|refine zq2 ?_ GE102.out)|exact HB.out)) hb)
     clear HO111
     clear BK101
     clear BK102
     clear HB
     have HO111:=n0_
     have HO105:=n1_
     have BK101:=n2_
     have BK102:=n3_
     have HB:=n4_
     clear n0_ n1_ n2_ n3_ n4_
     clear hb ho10
     refine hK.out _ _ ⟨zq1 BK101.out 0,zq1 BK101.out 1,zq1 BK101.out 2,zq1 BK101.out 3⟩ (fun hHeld=>?_)
     clear hK K
     refine norm_ (a':=?_) ?_ ?_
     rotate_left
     ·show Act.put _ (some 5) _=_
      simp only [Act.put,zL0,zL1,zL2,i64_w,i32_w]
      rfl
     refine one_ (i:=5) (N:=some 8) #[true,true,true,true,true,true,true,true,true,false,false,false] rfl rfl (one_of HT_.out (by kernel_rfl)) (by decide) (fun K hK=>?_)
     refine Kd.R_append_rows_step k30 (w0:=w) w.heap.size (by rfl) (.tmp 5) (.tmp 7) 31 30 (.agg #[(.string ⟨#[]⟩),(.string ⟨#[]⟩)]) 32 rfl Tryd.underlying31 info30 rfl (by decide) (by omega) v104 y103 l0_2 _ _ _ (fun _=>True) (fun _=>False) rfl rfl ?aO ?aR (fun _ _ h=>h) (fun _ h=>h.elim) ?aF ?aB ?aS ?aL ?_
     (case aR=>repeat (first|exact (Kd.z1 HR0_2.out HB.out)|(with_reducible refine Kd.z0 ?_ _)|(with_reducible refine Kd.z3 ?_ _)|(with_reducible refine Kd.z2 ?_)))
     (case aB=>exact (by repeat (first|(with_reducible first|exact HB.out|apply zq4|apply zq0|apply zq3|refine zq2 ?_ GE101.out|refine zq2 ?_ GE102.out)|exact HB.out)))
     (case aF=>exact (fun _ _=>trivial))
     (case aO=>exact (by (with_reducible repeat (first|apply Kd.z4|apply Kd.z7|apply Kd.z6));exact HO105.out))
     (case aS=>exact (zq14 (by repeat (first|(with_reducible first|exact HB.out|apply zq4|apply zq0|apply zq3|refine zq2 ?_ GE101.out|refine zq2 ?_ GE102.out)|exact HB.out))))
     (case aL=>have:=LMc2.out;omega)
     intro v107 w11 ho hb hg hat
     rw [← Ny106.out] at ho
     have n0_:=zA (blk_grown (by (with_reducible repeat (first|refine zq6 ?_ _|refine zq8 ?_|refine zq5 ?_ _));exact BK101.out) hg (Kd.R_ne HO105.out BK101.out (by decide)))
     have n1_:=zA (blk_grown (by (with_reducible repeat (first|refine zq6 ?_ _|refine zq8 ?_|refine zq5 ?_ _));exact BK102.out) hg (Kd.R_ne HO105.out BK102.out (by decide)))
     have n2_:=zA (Kd.R_over' (by (with_reducible repeat (first|apply Kd.z4|apply Kd.z7|apply Kd.z6));exact HO111.out) (Kd.R_typed (by (with_reducible repeat (first|apply Kd.z4|apply Kd.z7|apply Kd.z6));exact HO105.out)) (by decide) hg)
     have n3_:=zA (hb)
     have n4_:=zA (ho)
     clear BK101
     clear BK102
     clear HO111
     clear HB
     clear HO105
     have BK101:=n0_
     have BK102:=n1_
     have HO111:=n2_
     have HB:=n3_
     have HO108:=n4_
     clear n0_ n1_ n2_ n3_ n4_
     clear ho hb hg hat
     refine hK.out _ _ ⟨zq1 BK101.out 0,zq1 BK101.out 1,zq1 BK101.out 2,zq1 BK101.out 3⟩ (fun hHeld=>?_)
     clear hK K
     refine norm_ (a':=?_) ?_ ?_
     rotate_left
     ·show Act.put _ (some 8) _=_
      simp only [Act.put,zL0,zL1,zL2,i64_w,i32_w]
      rfl
     exact norm_ (by simp only [putAll,Act.put,zL0,zL1,zL2]) (hCont (v104,v107,v110) _ ⟨hHeld,(by (with_reducible repeat (first|apply Kd.z4|apply Kd.z7|apply Kd.z6));exact HO108.out),(by (with_reducible repeat (first|apply Kd.z4|apply Kd.z7|apply Kd.z6));exact HO111.out),(by (with_reducible repeat (first|refine zq6 ?_ _|refine zq8 ?_|refine zq5 ?_ _));exact BK101.out),(by (with_reducible repeat (first|refine zq6 ?_ _|refine zq8 ?_|refine zq5 ?_ _));exact BK102.out),(by repeat (first|(with_reducible first|exact HB.out|apply zq4|apply zq0|apply zq3|refine zq2 ?_ GE101.out|refine zq2 ?_ GE102.out)|exact HB.out))⟩)
   rintro ⟨v104,v107,v110⟩ w12 ⟨hS_,h0_,h1_,h2_,h3_,h4_⟩
   have n0_:Aside0 (Kd.R k30 30 w12 w.heap.size (fun _=>True) v107 y106):=⟨h0_⟩
   have n1_:Aside0 (Kd.R Kd.string 9 w12 w.heap.size (fun _=>True) v110 y109):=⟨h1_⟩
   have n2_:Aside0 (w12.heap[gb101]?=some (.cells #[.string a0_0,.string a0_1,.slice A0_2 l0_2.length c0_2,.slice A0_3 l0_3.length c0_3] 33 (0,0))):=⟨h2_⟩
   have n3_:Aside0 (w12.heap[gb102]?=some (.cells #[.string bz0,.string bz0,.slice none 0 0,.slice none 0 0] 33 (0,0))):=⟨h3_⟩
   have n4_:Aside0 (Below w.heap.size w w12):=⟨h4_⟩
   clear BK101
   clear BK102
   clear HB
   clear h0_ h1_ h2_ h3_ h4_
   have HO108:=n0_
   have HO111:=n1_
   have BK101:=n2_
   have BK102:=n3_
   have HB:=n4_
   clear n0_ n1_ n2_ n3_ n4_
   have hHeld:w12.cell? ⟨gb101,0,none⟩=some (.string a0_0)∧w12.cell? ⟨gb101,1,none⟩=some (.string a0_1)∧w12.cell? ⟨gb101,2,none⟩=some (.slice A0_2 l0_2.length c0_2)∧w12.cell? ⟨gb101,3,none⟩=some (.slice A0_3 l0_3.length c0_3):=hS_
   refine norm_ (a':=?_) ?_ ?_
   rotate_left
   ·simp only [putAll,Act.put,zL0,zL1,zL2]
    rfl
   refine one_ (i:=9) (N:=some 12) #[true,true,true,true,true,true,true,true,true,true,false,false] rfl rfl (one_of HT_.out (by kernel_rfl)) (by decide) (fun K hK=>?_)
   refine Kd.R_append_rows_step Kd.string (w0:=w) w.heap.size (by rfl) (.tmp 9) (.tmp 11) 25 9 (.string ⟨#[]⟩) 16 rfl Tryd.underlying25 info9 rfl (by decide) (by omega) v110 y109 l0_3 _ _ _ (fun _=>True) (fun _=>False) rfl rfl ?aO ?aR (fun _ _ h=>h) (fun _ h=>h.elim) ?aF ?aB ?aS ?aL ?_
   (case aR=>repeat (first|exact (Kd.z1 HR0_3.out HB.out)|(with_reducible refine Kd.z0 ?_ _)|(with_reducible refine Kd.z3 ?_ _)|(with_reducible refine Kd.z2 ?_)))
   (case aB=>exact (by repeat (first|(with_reducible first|exact HB.out|apply zq4|apply zq0|apply zq3|refine zq2 ?_ GE101.out|refine zq2 ?_ GE102.out)|exact HB.out)))
   (case aF=>exact (fun _ _=>trivial))
   (case aO=>exact (by (with_reducible repeat (first|apply Kd.z4|apply Kd.z7|apply Kd.z6));exact HO111.out))
   (case aS=>exact (zq14 (by repeat (first|(with_reducible first|exact HB.out|apply zq4|apply zq0|apply zq3|refine zq2 ?_ GE101.out|refine zq2 ?_ GE102.out)|exact HB.out))))
   (case aL=>have:=LMc3.out;omega)
   intro v113 w13 ho hb hg hat
   rw [← Ny112.out] at ho
   have n0_:=zA (blk_grown (by (with_reducible repeat (first|refine zq6 ?_ _|refine zq8 ?_|refine zq5 ?_ _));exact BK101.out) hg (Kd.R_ne HO111.out BK101.out (by decide)))
   have n1_:=zA (blk_grown (by (with_reducible repeat (first|refine zq6 ?_ _|refine zq8 ?_|refine zq5 ?_ _));exact BK102.out) hg (Kd.R_ne HO111.out BK102.out (by decide)))
   have n2_:=zA (Kd.R_over' (by (with_reducible repeat (first|apply Kd.z4|apply Kd.z7|apply Kd.z6));exact HO108.out) (Kd.R_typed (by (with_reducible repeat (first|apply Kd.z4|apply Kd.z7|apply Kd.z6));exact HO111.out)) (by decide) hg)
   have n3_:=zA (hb)
   have n4_:=zA (ho)
   clear BK101
   clear BK102
   clear HO108
   clear HB
   clear HO111
   have BK101:=n0_
   have BK102:=n1_
   have HO108:=n2_
   have HB:=n3_
   have HO114:=n4_
   clear n0_ n1_ n2_ n3_ n4_
   clear ho hb hg hat
   obtain ⟨Ao14,co14,eo14⟩:=Kd.z13 HO114.out
   (first|subst eo14|(injection eo14 with f1_ f2_ f3_;have f4_:=f1_.symm;have f5_:=f3_.symm;clear f1_ f2_ f3_;subst f4_;subst f5_))
   obtain ⟨Ao15,co15,eo15⟩:=Kd.z13 HO108.out
   (first|subst eo15|(injection eo15 with f1_ f2_ f3_;have f4_:=f1_.symm;have f5_:=f3_.symm;clear f1_ f2_ f3_;subst f4_;subst f5_))
   refine hK.out _ _ ⟨zq1 BK101.out 0,zq1 BK101.out 1,zq1 BK101.out 2,zq1 BK101.out 3⟩ (fun hHeld=>?_)
   clear hK K
   refine norm_ (a':=?_) ?_ ?_
   rotate_left
   ·show Act.put _ (some 12) _=_
    simp only [Act.put,zL0,zL1,zL2,i64_w,i32_w]
    rfl
   refine pure_ (i:=10) (N:=some 13) (v:=?_) (a':=?_) #[true,true,true,true,true,true,true,true,true,true,true,false] rfl rfl (any_of HT_.out (by kernel_rfl)) (fun _ _ _ h=>h) (Or.inl ⟨by rfl,?_⟩) ?_ ?_
   rotate_left
   ·intro w'
    go_simp
    with_reducible rfl
   rotate_left
   ·simp only [Act.put,zL0,zL1,zL2,i64_w,i32_w]
    rfl
   refine one_ (i:=11) (N:=none) #[true,true,true,true,true,true,true,true,true,true,true,true] rfl rfl (one_of HT_.out (by kernel_rfl)) (by decide) (fun K hK=>?_)
   have hs16:w13.cell? ⟨gb102,0,none⟩=some (.string bz0):=zq1 BK102.out 0
   have hfs16:=zq7 BK102.out 0
   have hns16_0:=NB101_102.out
   have hms16_0:=NB102_101.out
   have hs17:w13.cell? ⟨gb102,1,none⟩=some (.string bz0):=zq1 BK102.out 1
   have hfs17:=zq7 BK102.out 1
   have hns17_0:=NB101_102.out
   have hms17_0:=NB102_101.out
   have hs18:w13.cell? ⟨gb102,2,none⟩=some (.slice none 0 0):=zq1 BK102.out 2
   have hfs18:=zq7 BK102.out 2
   have hns18_0:=NB101_102.out
   have hms18_0:=NB102_101.out
   have hs19:w13.cell? ⟨gb102,3,none⟩=some (.slice none 0 0):=zq1 BK102.out 3
   have hfs19:=zq7 BK102.out 3
   have hns19_0:=NB101_102.out
   have hms19_0:=NB102_101.out
   refine skip_ (w1:=?_) (by rfl) rfl ?_ ?_
   rotate_left
   ·go_simp
    rfl
   refine hK.out _ _ ⟨((zq20 (p:=⟨gb102,_,none⟩) NB101_102.out _).trans (((zq20 (p:=⟨gb102,_,none⟩) NB101_102.out _).trans (((zq20 (p:=⟨gb102,_,none⟩) NB101_102.out _).trans (((zq20 (p:=⟨gb102,_,none⟩) NB101_102.out _).trans (hHeld.1)))))))),((zq20 (p:=⟨gb102,_,none⟩) NB101_102.out _).trans (((zq20 (p:=⟨gb102,_,none⟩) NB101_102.out _).trans (((zq20 (p:=⟨gb102,_,none⟩) NB101_102.out _).trans (((zq20 (p:=⟨gb102,_,none⟩) NB101_102.out _).trans (hHeld.2.1)))))))),((zq20 (p:=⟨gb102,_,none⟩) NB101_102.out _).trans (((zq20 (p:=⟨gb102,_,none⟩) NB101_102.out _).trans (((zq20 (p:=⟨gb102,_,none⟩) NB101_102.out _).trans (((zq20 (p:=⟨gb102,_,none⟩) NB101_102.out _).trans (hHeld.2.2.1)))))))),((zq20 (p:=⟨gb102,_,none⟩) NB101_102.out _).trans (((zq20 (p:=⟨gb102,_,none⟩) NB101_102.out _).trans (((zq20 (p:=⟨gb102,_,none⟩) NB101_102.out _).trans (((zq20 (p:=⟨gb102,_,none⟩) NB101_102.out _).trans (hHeld.2.2.2))))))))⟩ (fun hHeld=>?_)
   clear hK K
   refine done_ (done_of HT_.out (by kernel_rfl)) ?_
   try go_wp2
   refine bodyPost_ret (results_cell_row rfl _ _ gb102 33 #[.string a0_0,.string a0_1,.slice Ao15 y106.length co15,.slice Ao14 y112.length co14] (0,0) _ rfl (by (with_reducible repeat (first|refine zq6 ?_ _|refine zq8 ?_|refine zq5 ?_ _));refine zq18 (cs:=#[.string a0_0,.string a0_1,.slice Ao15 y106.length co15,.slice none 0 0]) ?_ 3 _ rfl;(with_reducible repeat (first|refine zq6 ?_ _|refine zq8 ?_|refine zq5 ?_ _));refine zq18 (cs:=#[.string a0_0,.string a0_1,.slice none 0 0,.slice none 0 0]) ?_ 2 _ rfl;(with_reducible repeat (first|refine zq6 ?_ _|refine zq8 ?_|refine zq5 ?_ _));refine zq18 (cs:=#[.string a0_0,.string bz0,.slice none 0 0,.slice none 0 0]) ?_ 1 _ rfl;(with_reducible repeat (first|refine zq6 ?_ _|refine zq8 ?_|refine zq5 ?_ _));refine zq18 (cs:=#[.string bz0,.string bz0,.slice none 0 0,.slice none 0 0]) ?_ 0 _ rfl;(with_reducible repeat (first|refine zq6 ?_ _|refine zq8 ?_|refine zq5 ?_ _));exact BK102.out) Tryd.underlying33 rfl (by kernel_rfl)) rfl ?_
   exact ⟨_,_,by first|rfl|(simp [zq16,zq17]<;>rfl)|(simp [*,zq16,zq17]<;>rfl),by (with_reducible repeat (first|apply Kd.z4|apply Kd.z7|apply Kd.z6));exact Kd.z11 (Kd.z8 (p:=⟨gb102,3,none⟩) (Kd.z8 (p:=⟨gb102,2,none⟩) (Kd.z8 (p:=⟨gb102,1,none⟩) (Kd.z8 (p:=⟨gb102,0,none⟩) (Kd.z14 HO108.out BK102.out (by decide)) (fun _ hk=>hk.2) (.string a0_0)) (fun _ hk=>hk.2) (.string a0_1)) (fun _ hk=>hk.2) (.slice Ao15 y106.length co15)) (fun _ hk=>hk.2) (.slice Ao14 y112.length co14)) (fun _ hk=>trivial),by (with_reducible repeat (first|apply Kd.z4|apply Kd.z7|apply Kd.z6));exact Kd.z11 (Kd.z8 (p:=⟨gb102,3,none⟩) (Kd.z8 (p:=⟨gb102,2,none⟩) (Kd.z8 (p:=⟨gb102,1,none⟩) (Kd.z8 (p:=⟨gb102,0,none⟩) (Kd.z14 HO114.out BK102.out (by decide)) (fun _ hk=>hk.2) (.string a0_0)) (fun _ hk=>hk.2) (.string a0_1)) (fun _ hk=>hk.2) (.slice Ao15 y106.length co15)) (fun _ hk=>hk.2) (.slice Ao14 y112.length co14)) (fun _ hk=>trivial),by repeat (first|(with_reducible first|exact HB.out|apply zq4|apply zq0|apply zq3|refine zq2 ?_ GE101.out|refine zq2 ?_ GE102.out)|exact HB.out)⟩
  ·rw [if_neg c3] at H
   exact absurd H (by simp)
 ·rw [if_neg c2] at H
  exact absurd H (by simp)
end Go.Proofs.YthkibaldmjfmmaaDoor.Q
