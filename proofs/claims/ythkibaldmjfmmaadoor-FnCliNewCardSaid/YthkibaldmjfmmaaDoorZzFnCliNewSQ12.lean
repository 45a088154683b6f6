/- Of a text of ours what this claim needs. -/
import Derived.Test.YthkibaldmjfmmaaDoorZzFnCliNewSQ0
import Derived.Test.YthkibaldmjfmmaaDoorZzFnCliNewSQ7
import Derived.Test.YthkibaldmjfmmaaDoorZzFnCliNewSQ11
import Derived.Test.YthkibaldmjfmmaaDoorZzFnCliNewSHSplit
namespace Go.Proofs.YthkibaldmjfmmaaDoor.Q
open Go.RowKit Go.Proofs.YthkibaldmjfmmaaDoorW.PrintWords Go.Proofs.YthkibaldmjfmmaaDoorW.PrintLast Go.Proofs.YthkibaldmjfmmaaDoorW.PrintMore
attribute [local go_sem] max2_int min2_int max_two min_two max_three min_three max_four min_four
set_option linter.unusedVariables false
set_option linter.unusedSimpArgs false
def impl_CliNew.f (k:Nat) (a0:ByteArray) (a1_0:ByteArray) (a1_1:ByteArray) (l1_2:List (S30)) (l1_3:List ByteArray):Option (ByteArray × ByteArray × ByteArray × (List (S30)) × List ByteArray × Int × Int × List Int):=(impl_Mail_copied.f a1_0 a1_1 l1_2 l1_3).bind fun bt114=>(if 0≤(l1_2.length:Int) then (if ((l1_2.length:Int):Int).toNat≤35184372088832 then ((some (List.replicate ((l1_2.length:Int):Int).toNat 0:List Int)).bind fun y122=>((impl_CliOk.f k a0 bt114.1 bt114.2.1 bt114.2.2.1 bt114.2.2.2 0 0 y122).bind fun t126=>(if t126=true then (some (a0,bt114.1,bt114.2.1,bt114.2.2.1,bt114.2.2.2,0,0,y122)) else (some ((⟨#[]⟩:ByteArray),(⟨#[]⟩:ByteArray),(⟨#[]⟩:ByteArray),([]:List (S30)),([]:List ByteArray),0,0,([]:List Int)))))) else (none)) else (none))
def impl_CliNew.T1:Bool × List (List Nat × List Nat):=(true,[([],[]),([],[]),([1],[1]),([],[]),([3],[3]),([4],[4]),([5,5],[5]),([0,2,6],[0,2,6]),([],[]),([8,7,2,0,1,2,3,4,5,6,7,8],[7,8])])
def impl_CliNew.B1:List Nat:=[0,0,2,0,8,24,56,127,0,511]
theorem impl_CliNew.tab1:rtab .any (opsOf Tryd.f35 1)=impl_CliNew.T1:=by kernel_rfl
theorem impl_CliNew.bits1:waitsOk impl_CliNew.T1.2 impl_CliNew.B1=true:=by kernel_rfl
set_option maxHeartbeats 8000000 in
set_option maxRecDepth 100000 in
theorem impl_CliNew.calls (k:Nat) (a0:ByteArray) (a1_0:ByteArray) (a1_1:ByteArray) (A1_2:Option Addr) (c1_2:Nat) (l1_2:List (S30)) (A1_3:Option Addr) (c1_3:Nat) (l1_3:List ByteArray) (r1:ByteArray) (r2:ByteArray) (r3:ByteArray) (r4:List (S30)) (r5:List ByteArray) (r6:Int) (r7:Int) (r8:List Int) (w:World) (hr1_2:Kd.C k30 w A1_2 l1_2.length l1_2) (hc1_2:l1_2.length≤c1_2) (hr1_3:Kd.C Kd.string w A1_3 l1_3.length l1_3) (hc1_3:l1_3.length≤c1_3) (hG:GOK w) (h:impl_CliNew.f k a0 a1_0 a1_1 l1_2 l1_3=some (r1,r2,r3,r4,r5,r6,r7,r8)) :
 Calls Tryd.prog 35 #[.string a0,.agg #[.string a1_0,.string a1_1,.slice A1_2 l1_2.length c1_2,.slice A1_3 l1_3.length c1_3]] w fun e w'=>∃ v3_ v4_ v7_:Value,e=.returned (.agg #[.string r1,.string r2,.string r3,v3_,v4_,.int .i64 r6,.int .i64 r7,v7_])∧Kd.R k30 30 w' w.heap.size (fun _=>True) v3_ r4∧Kd.R Kd.string 9 w' w.heap.size (fun _=>True) v4_ r5∧Kd.R (Kd.int .i64) 3 w' w.heap.size (fun _=>True) v7_ r8∧Below w.heap.size w w':=by
 have hu33:=Tryd.underlying33
 have hu67:=Tryd.underlying67
 have HR1_2:=zA hr1_2
 have HC1_2:=zA hc1_2
 clear hr1_2 hc1_2
 have HR1_3:=zA hr1_3
 have HC1_3:=zA hc1_3
 clear hr1_3 hc1_3
 have HG:=zA hG
 clear hG
 have HB:=zA (Below.refl w.heap.size w)
 have H:((impl_Mail_copied.f a1_0 a1_1 l1_2 l1_3).bind fun bt114=>(if 0≤(l1_2.length:Int) then (if ((l1_2.length:Int):Int).toNat≤35184372088832 then ((some (List.replicate ((l1_2.length:Int):Int).toNat 0:List Int)).bind fun y122=>((impl_CliOk.f k a0 bt114.1 bt114.2.1 bt114.2.2.1 bt114.2.2.2 0 0 y122).bind fun t126=>(if t126=true then (some (a0,bt114.1,bt114.2.1,bt114.2.2.1,bt114.2.2.2,0,0,y122)) else (some (bz0,bz0,bz0,([]:List (S30)),([]:List ByteArray),0,0,([]:List Int)))))) else (none)) else (none)))=some (r1,r2,r3,r4,r5,r6,r7,r8):=h
 clear h
 replace H:=Option.bind_eq_some_iff.mp H
 obtain ⟨⟨t114,t115,t116,t119⟩,A30,H⟩:=H
 replace H:(if 0≤(l1_2.length:Int) then (if ((l1_2.length:Int):Int).toNat≤35184372088832 then ((some (List.replicate ((l1_2.length:Int):Int).toNat 0:List Int)).bind fun y122=>((impl_CliOk.f k a0 t114 t115 t116 t119 0 0 y122).bind fun t126=>(if t126=true then (some (a0,t114,t115,t116,t119,0,0,y122)) else (some (bz0,bz0,bz0,([]:List (S30)),([]:List ByteArray),0,0,([]:List Int)))))) else (none)) else (none))=some (r1,r2,r3,r4,r5,r6,r7,r8):=H
 have A3:=zA A30
 clear A30
 by_cases c4:0≤(l1_2.length:Int)
 ·rw [if_pos c4] at H
  have c4b0:=eq_true c4
  have c4b1:decide (0≤(l1_2.length:Int))=true:=decide_eq_true c4
  clear c4
  by_cases c5:((l1_2.length:Int):Int).toNat≤35184372088832
  ·rw [if_pos c5] at H
   have c5b0:=eq_true c5
   have c5b1:decide (((l1_2.length:Int):Int).toNat≤35184372088832)=true:=decide_eq_true c5
   clear c5
   obtain ⟨y122,hy122⟩:∃ y_:List Int,y_=(List.replicate ((l1_2.length:Int):Int).toNat 0):=⟨_,rfl⟩
   replace H:((impl_CliOk.f k a0 t114 t115 t116 t119 0 0 y122).bind fun t126=>(if t126=true then (some (a0,t114,t115,t116,t119,0,0,y122)) else (some (bz0,bz0,bz0,([]:List (S30)),([]:List ByteArray),0,0,([]:List Int)))))=some (r1,r2,r3,r4,r5,r6,r7,r8):=by first|(rw [hy122];with_reducible exact H)|(have H2_:=(Option.bind_some _ _).symm.trans H;rw [hy122];with_reducible exact H2_)|(have H2_:=(Option.bind_some _ _).symm.trans H;with_reducible exact H2_)|with_reducible exact H|(rw [hy122];exact H)|exact H
   have Ny122:=zA hy122
   clear hy122
   replace H:=Option.bind_eq_some_iff.mp H
   obtain ⟨t126,A60,H⟩:=H
   replace H:(if t126=true then (some (a0,t114,t115,t116,t119,0,0,y122)) else (some (bz0,bz0,bz0,([]:List (S30)),([]:List ByteArray),0,0,([]:List Int))))=some (r1,r2,r3,r4,r5,r6,r7,r8):=H
   have A6:=zA A60
   clear A60
   by_cases c7:t126=true
   ·subst c7
    have H1:(some (a0,t114,t115,t116,t119,0,0,y122))=some (r1,r2,r3,r4,r5,r6,r7,r8):=by rw [if_pos rfl] at H;exact H
    clear H
    have H:=H1
    clear H1
    simp only [Option.some.injEq,Prod.mk.injEq] at H
    obtain ⟨rfl,rfl,rfl,rfl,rfl,rfl,rfl,rfl⟩:=H
    go_enter Tryd.func35,Tryd.ntmps35
    try go_wp2_with (first|((with_reducible refine zq21 (N:=3) rfl ?_);refine zq23 ?hg (N:=3) ?hd (cs:=#[.string a1_0,.string a1_1,.slice A1_2 l1_2.length c1_2,.slice A1_3 l1_3.length c1_3]) (t:=33) ?hr ?_;(case hd=>rfl);(case hg=>rfl);(case hr=>first|(go_simp;done)|(go_simp;rfl));intro gb112 hg w8 hbox hb;have n0_:=zA (zq11 (by repeat (first|(with_reducible first|exact HB.out|apply zq4|apply zq0|apply zq3)|exact HB.out)) hb);have n1_:=zA (hbox);have n2_:=zA ((by rw [hg];exact (zq14 (by repeat (first|(with_reducible first|exact HB.out|apply zq4|apply zq0|apply zq3)|exact HB.out))):w.heap.size≤gb112));have n3_:=zA ((by rw [hg];exact (zq14 (by repeat (first|(with_reducible first|exact HB.out|apply zq4|apply zq0|apply zq3)|exact HB.out))):w.heap.size≤gb112));clear HB;have HB:=n0_;have BK112:=n1_;have GW112:=n2_;have GE112:=n3_;clear n0_ n1_ n2_ n3_;clear hb hbox hg)|((with_reducible refine zq21 (N:=4) rfl ?_);refine zq23 ?hg (N:=4) ?hd (cs:=#[.string bz0,.string bz0,.string bz0,.slice none 0 0,.slice none 0 0,.int .i64 0,.int .i64 0,.slice none 0 0]) (t:=67) ?hr ?_;(case hd=>rfl);(case hg=>rfl);(case hr=>first|(go_simp;done)|(go_simp;rfl));intro gb113 hg w9 hbox hb;have n0_:=zA (zq13 (by (with_reducible repeat (first|refine zq6 ?_ _|refine zq8 ?_|refine zq5 ?_ _));exact BK112.out) hb);have n1_:=zA (zq11 (by repeat (first|(with_reducible first|exact HB.out|apply zq4|apply zq0|apply zq3|refine zq2 ?_ GE112.out)|exact HB.out)) hb);have n2_:=zA (hbox);have n3_:=zA ((by rw [hg];exact (zq14 (by repeat (first|(with_reducible first|exact HB.out|apply zq4|apply zq0|apply zq3|refine zq2 ?_ GE112.out)|exact HB.out))):w.heap.size≤gb113));have n4_:=zA ((by rw [hg];exact (zq14 (by repeat (first|(with_reducible first|exact HB.out|apply zq4|apply zq0|apply zq3|refine zq2 ?_ GE112.out)|exact HB.out))):w.heap.size≤gb113));have n5_:=zA ((by rw [hg];exact Nat.ne_of_lt (zq25 (g:=gb112) (o:=.cells #[.string a1_0,.string a1_1,.slice A1_2 l1_2.length c1_2,.slice A1_3 l1_3.length c1_3] 33 (0,0)) (by (with_reducible repeat (first|refine zq6 ?_ _|refine zq8 ?_|refine zq5 ?_ _));exact BK112.out)):gb112≠gb113));have n6_:=zA ((by rw [hg];exact Nat.ne_of_gt (zq25 (g:=gb112) (o:=.cells #[.string a1_0,.string a1_1,.slice A1_2 l1_2.length c1_2,.slice A1_3 l1_3.length c1_3] 33 (0,0)) (by (with_reducible repeat (first|refine zq6 ?_ _|refine zq8 ?_|refine zq5 ?_ _));exact BK112.out)):gb113≠gb112));clear BK112;clear HB;have BK112:=n0_;have HB:=n1_;have BK113:=n2_;have GW113:=n3_;have GE113:=n4_;have NB112_113:=n5_;have NB113_112:=n6_;clear n0_ n1_ n2_ n3_ n4_ n5_ n6_;clear hb hbox hg))
    have n0_:=zA (zq8 BK112.out)
    have n1_:=zA (zq8 BK113.out)
    have n2_:=zA (zq3 HB.out)
    clear BK112
    clear BK113
    clear HB
    have BK112:=n0_
    have BK113:=n1_
    have HB:=n2_
    clear n0_ n1_ n2_
    refine start_ (n:=10) (S:=fun w'=>w'.cell? ⟨gb112,0,none⟩=some (.string a1_0)∧w'.cell? ⟨gb112,1,none⟩=some (.string a1_1)∧w'.cell? ⟨gb112,2,none⟩=some (.slice A1_2 l1_2.length c1_2)∧w'.cell? ⟨gb112,3,none⟩=some (.slice A1_3 l1_3.length c1_3)) (ds:=[]) #[false,false,false,false,false,false,false,false,false,false] (by kernel_rfl) rfl rfl ⟨zq1 BK112.out 0,zq1 BK112.out 1,zq1 BK112.out 2,zq1 BK112.out 3⟩ (fun hHeld=>?_);refine with_tabW impl_CliNew.tab1 impl_CliNew.bits1 (fun HT_ HW_=>?_)
    generalize w9.drew=w10 at BK112 BK113 HB hHeld ⊢
    refine pure_ (i:=0) (N:=some 6) (v:=?_) (a':=?_) #[true,false,false,false,false,false,false,false,false,false] rfl rfl (any_of HT_.out (by kernel_rfl)) (fun _ _ _ h=>h) (Or.inl ⟨by rfl,?_⟩) ?_ ?_
    rotate_left
    ·intro w'
     go_simp
     with_reducible rfl
    rotate_left
    ·simp only [Act.put,zL0,zL1,zL2,i64_w,i32_w]
     rfl
    refine pure_ (i:=3) (N:=some 9) (v:=?_) (a':=?_) #[true,false,false,true,false,false,false,false,false,false] rfl rfl (any_of HT_.out (by kernel_rfl)) (fun _ _ _ h=>h) (Or.inl ⟨by rfl,?_⟩) ?_ ?_
    rotate_left
    ·intro w'
     go_simp
     with_reducible rfl
    rotate_left
    ·simp only [Act.put,zL0,zL1,zL2,i64_w,i32_w]
     rfl
    refine take_ (i:=1) (N:=some 7) (v:=?_) (a':=?_) #[true,true,false,true,false,false,false,false,false,false] rfl rfl (take_ofW HT_.out HW_.out (by kernel_rfl)) (fun _ _ _ h=>h) (Or.inl ⟨by rfl,?_⟩) hHeld ?_ ?_
    rotate_left
    ·rintro w' ⟨s0,s1,s2,s3⟩
     go_simp
     with_reducible rfl
    rotate_left
    ·simp only [Act.put,zL0,zL1,zL2,i64_w,i32_w]
     rfl
    refine take_ (i:=4) (N:=some 10) (v:=?_) (a':=?_) #[true,true,false,true,true,false,false,false,false,false] rfl rfl (take_ofW HT_.out HW_.out (by kernel_rfl)) (fun _ _ _ h=>h) (Or.inl ⟨by rfl,?_⟩) hHeld ?_ ?_
    rotate_left
    ·rintro w' ⟨s0,s1,s2,s3⟩
     go_simp
     with_reducible rfl
    rotate_left
    ·simp only [Act.put,zL0,zL1,zL2,i64_w,i32_w]
     rfl
    refine pure_ (i:=5) (N:=some 11) (v:=?_) (a':=?_) #[true,true,false,true,true,true,false,false,false,false] rfl rfl (any_of HT_.out (by kernel_rfl)) (fun _ _ _ h=>h) (Or.inl ⟨by rfl,?_⟩) ?_ ?_
    rotate_left
    ·intro w'
     go_simp
     with_reducible rfl
    rotate_left
    ·simp only [Act.put,zL0,zL1,zL2,i64_w,i32_w]
     rfl
    refine join_ (σ:=Value × Value × Value × Nat) 1 #[true,true,true,true,true,true,true,true,true,false] (fun s_=>[(8,.agg #[.string t114,.string t115,s_.1,s_.2.1]),(12,s_.2.2.1),(5,.pointer (some ⟨s_.2.2.2,0,none⟩)),(13,.agg #[.string a0,.string t114,.string t115,s_.1,s_.2.1,.int .i64 0,.int .i64 0,s_.2.2.1])]) (fun s_ w'=>(w'.cell? ⟨gb112,0,none⟩=some (.string a1_0)∧w'.cell? ⟨gb112,1,none⟩=some (.string a1_1)∧w'.cell? ⟨gb112,2,none⟩=some (.slice A1_2 l1_2.length c1_2)∧w'.cell? ⟨gb112,3,none⟩=some (.slice A1_3 l1_3.length c1_3))∧(Kd.R k30 30 w' w.heap.size (fun _=>True) s_.1 t116)∧(Kd.R Kd.string 9 w' w.heap.size (fun _=>True) s_.2.1 t119)∧(Kd.R (Kd.int .i64) 3 w' w.heap.size (fun _=>True) s_.2.2.1 y122)∧(w'.heap[gb112]?=some (.cells #[.string a1_0,.string a1_1,.slice A1_2 l1_2.length c1_2,.slice A1_3 l1_3.length c1_3] 33 (0,0)))∧(w'.heap[gb113]?=some (.cells #[.string bz0,.string bz0,.string bz0,.slice none 0 0,.slice none 0 0,.int .i64 0,.int .i64 0,.slice none 0 0] 67 (0,0)))∧(w'.heap[s_.2.2.2]?=some (.cells #[.string bz0,.string bz0,.string bz0,.slice none 0 0,.slice none 0 0,.int .i64 0,.int .i64 0,.slice none 0 0] 67 (0,0)))∧(w.heap.size≤s_.2.2.2)∧(w.heap.size≤s_.2.2.2)∧(gb112≠s_.2.2.2)∧(s_.2.2.2≠gb112)∧(gb113≠s_.2.2.2)∧(s_.2.2.2≠gb113)∧(Below w.heap.size w w')) ?_ ?_
    rotate_left
    ·intro hJ2_6_8
     refine join_ (σ:=Value × Value × Value) 2 #[true,true,true,true,true,true,true,true,false,false] (fun s_=>[(8,.agg #[.string t114,.string t115,s_.1,s_.2.1]),(12,s_.2.2),(13,.agg #[.string a0,.string t114,.string t115,s_.1,s_.2.1,.int .i64 0,.int .i64 0,s_.2.2])]) (fun s_ w'=>(w'.cell? ⟨gb112,0,none⟩=some (.string a1_0)∧w'.cell? ⟨gb112,1,none⟩=some (.string a1_1)∧w'.cell? ⟨gb112,2,none⟩=some (.slice A1_2 l1_2.length c1_2)∧w'.cell? ⟨gb112,3,none⟩=some (.slice A1_3 l1_3.length c1_3))∧(Kd.R k30 30 w' w.heap.size (fun _=>True) s_.1 t116)∧(Kd.R Kd.string 9 w' w.heap.size (fun _=>True) s_.2.1 t119)∧(Kd.R (Kd.int .i64) 3 w' w.heap.size (fun _=>True) s_.2.2 y122)∧(w'.heap[gb112]?=some (.cells #[.string a1_0,.string a1_1,.slice A1_2 l1_2.length c1_2,.slice A1_3 l1_3.length c1_3] 33 (0,0)))∧(w'.heap[gb113]?=some (.cells #[.string bz0,.string bz0,.string bz0,.slice none 0 0,.slice none 0 0,.int .i64 0,.int .i64 0,.slice none 0 0] 67 (0,0)))∧(Below w.heap.size w w')) ?_ ?_
     rotate_left
     ·intro hJ2_6
      refine join_ (σ:=Value × Value × Nat) 3 #[true,true,true,true,true,true,false,false,true,false] (fun s_=>[(8,.agg #[.string t114,.string t115,s_.1,s_.2.1]),(5,.pointer (some ⟨s_.2.2,0,none⟩))]) (fun s_ w'=>(w'.cell? ⟨gb112,0,none⟩=some (.string a1_0)∧w'.cell? ⟨gb112,1,none⟩=some (.string a1_1)∧w'.cell? ⟨gb112,2,none⟩=some (.slice A1_2 l1_2.length c1_2)∧w'.cell? ⟨gb112,3,none⟩=some (.slice A1_3 l1_3.length c1_3))∧(Kd.R k30 30 w' w.heap.size (fun _=>True) s_.1 t116)∧(Kd.R Kd.string 9 w' w.heap.size (fun _=>True) s_.2.1 t119)∧(w'.heap[gb112]?=some (.cells #[.string a1_0,.string a1_1,.slice A1_2 l1_2.length c1_2,.slice A1_3 l1_3.length c1_3] 33 (0,0)))∧(w'.heap[gb113]?=some (.cells #[.string bz0,.string bz0,.string bz0,.slice none 0 0,.slice none 0 0,.int .i64 0,.int .i64 0,.slice none 0 0] 67 (0,0)))∧(w'.heap[s_.2.2]?=some (.cells #[.string bz0,.string bz0,.string bz0,.slice none 0 0,.slice none 0 0,.int .i64 0,.int .i64 0,.slice none 0 0] 67 (0,0)))∧(w.heap.size≤s_.2.2)∧(w.heap.size≤s_.2.2)∧(gb112≠s_.2.2)∧(s_.2.2≠gb112)∧(gb113≠s_.2.2)∧(s_.2.2≠gb113)∧(Below w.heap.size w w')) ?_ ?_
      rotate_left
      ·intro hJ2_8
       refine join_ (σ:=Value × Nat) 3 #[true,true,false,true,true,true,true,false,true,false] (fun s_=>[(12,s_.1),(5,.pointer (some ⟨s_.2,0,none⟩))]) (fun s_ w'=>(w'.cell? ⟨gb112,0,none⟩=some (.string a1_0)∧w'.cell? ⟨gb112,1,none⟩=some (.string a1_1)∧w'.cell? ⟨gb112,2,none⟩=some (.slice A1_2 l1_2.length c1_2)∧w'.cell? ⟨gb112,3,none⟩=some (.slice A1_3 l1_3.length c1_3))∧(Kd.R (Kd.int .i64) 3 w' w.heap.size (fun _=>True) s_.1 y122)∧(w'.heap[gb112]?=some (.cells #[.string a1_0,.string a1_1,.slice A1_2 l1_2.length c1_2,.slice A1_3 l1_3.length c1_3] 33 (0,0)))∧(w'.heap[gb113]?=some (.cells #[.string bz0,.string bz0,.string bz0,.slice none 0 0,.slice none 0 0,.int .i64 0,.int .i64 0,.slice none 0 0] 67 (0,0)))∧(w'.heap[s_.2]?=some (.cells #[.string bz0,.string bz0,.string bz0,.slice none 0 0,.slice none 0 0,.int .i64 0,.int .i64 0,.slice none 0 0] 67 (0,0)))∧(w.heap.size≤s_.2)∧(w.heap.size≤s_.2)∧(gb112≠s_.2)∧(s_.2≠gb112)∧(gb113≠s_.2)∧(s_.2≠gb113)∧(Below w.heap.size w w')) ?_ ?_
       rotate_left
       ·intro hJ6_8
        refine join_ (σ:=Value × Value) 4 #[true,true,true,true,true,true,false,false,false,false] (fun s_=>[(8,.agg #[.string t114,.string t115,s_.1,s_.2])]) (fun s_ w'=>(w'.cell? ⟨gb112,0,none⟩=some (.string a1_0)∧w'.cell? ⟨gb112,1,none⟩=some (.string a1_1)∧w'.cell? ⟨gb112,2,none⟩=some (.slice A1_2 l1_2.length c1_2)∧w'.cell? ⟨gb112,3,none⟩=some (.slice A1_3 l1_3.length c1_3))∧(Kd.R k30 30 w' w.heap.size (fun _=>True) s_.1 t116)∧(Kd.R Kd.string 9 w' w.heap.size (fun _=>True) s_.2 t119)∧(w'.heap[gb112]?=some (.cells #[.string a1_0,.string a1_1,.slice A1_2 l1_2.length c1_2,.slice A1_3 l1_3.length c1_3] 33 (0,0)))∧(w'.heap[gb113]?=some (.cells #[.string bz0,.string bz0,.string bz0,.slice none 0 0,.slice none 0 0,.int .i64 0,.int .i64 0,.slice none 0 0] 67 (0,0)))∧(Below w.heap.size w w')) ?_ ?_
        rotate_left
        ·intro hJ2
         refine join_ (σ:=Value) 4 #[true,true,false,true,true,true,true,false,false,false] (fun s_=>[(12,s_)]) (fun s_ w'=>(w'.cell? ⟨gb112,0,none⟩=some (.string a1_0)∧w'.cell? ⟨gb112,1,none⟩=some (.string a1_1)∧w'.cell? ⟨gb112,2,none⟩=some (.slice A1_2 l1_2.length c1_2)∧w'.cell? ⟨gb112,3,none⟩=some (.slice A1_3 l1_3.length c1_3))∧(Kd.R (Kd.int .i64) 3 w' w.heap.size (fun _=>True) s_ y122)∧(w'.heap[gb112]?=some (.cells #[.string a1_0,.string a1_1,.slice A1_2 l1_2.length c1_2,.slice A1_3 l1_3.length c1_3] 33 (0,0)))∧(w'.heap[gb113]?=some (.cells #[.string bz0,.string bz0,.string bz0,.slice none 0 0,.slice none 0 0,.int .i64 0,.int .i64 0,.slice none 0 0] 67 (0,0)))∧(Below w.heap.size w w')) ?_ ?_
         rotate_left
         ·intro hJ6
          refine join_ (σ:=Nat) 4 #[true,true,false,true,true,true,false,false,true,false] (fun s_=>[(5,.pointer (some ⟨s_,0,none⟩))]) (fun s_ w'=>(w'.cell? ⟨gb112,0,none⟩=some (.string a1_0)∧w'.cell? ⟨gb112,1,none⟩=some (.string a1_1)∧w'.cell? ⟨gb112,2,none⟩=some (.slice A1_2 l1_2.length c1_2)∧w'.cell? ⟨gb112,3,none⟩=some (.slice A1_3 l1_3.length c1_3))∧(w'.heap[gb112]?=some (.cells #[.string a1_0,.string a1_1,.slice A1_2 l1_2.length c1_2,.slice A1_3 l1_3.length c1_3] 33 (0,0)))∧(w'.heap[gb113]?=some (.cells #[.string bz0,.string bz0,.string bz0,.slice none 0 0,.slice none 0 0,.int .i64 0,.int .i64 0,.slice none 0 0] 67 (0,0)))∧(w'.heap[s_]?=some (.cells #[.string bz0,.string bz0,.string bz0,.slice none 0 0,.slice none 0 0,.int .i64 0,.int .i64 0,.slice none 0 0] 67 (0,0)))∧(w.heap.size≤s_)∧(w.heap.size≤s_)∧(gb112≠s_)∧(s_≠gb112)∧(gb113≠s_)∧(s_≠gb113)∧(Below w.heap.size w w')) ?_ ?_
          rotate_left
          ·intro hJ8
           refine three_ (i:=2) (j:=6) (k:=8) (Ni:=some 8) (Nj:=some 12) (Nk:=some 5) #[true,true,true,true,true,true,false,false,false,false] #[true,true,false,true,true,true,true,false,false,false] #[true,true,false,true,true,true,false,false,true,false] rfl rfl rfl rfl rfl rfl (three_of HT_.out (by kernel_rfl)) (by decide) (by decide) (by decide) (fun K hK=>?_) (fun K hK=>?_) (fun K hK=>?_)
           ·skip
            refine goes_ Tryd.func82 (by kernel_rfl) rfl #[.agg #[.string a1_0,.string a1_1,.slice A1_2 l1_2.length c1_2,.slice A1_3 l1_3.length c1_3]] (by rfl) rfl rfl (by (try simp only [zL3,zL4,zL5]);first|done|rfl|(simp only [zL6,zL7];rfl)) ?_
            with_reducible refine (impl_Mail_copied.calls a1_0 a1_1 _ _ l1_2 _ _ l1_3 t114 t115 t116 t119 _ ?side1 ?side2 ?side3 ?side4 A3.out).mono ?_
            (case side1=>repeat (first|exact (Kd.z1 HR1_2.out HB.out)|(with_reducible refine Kd.z0 ?_ _)|(with_reducible refine Kd.z3 ?_ _)|(with_reducible refine Kd.z2 ?_)))
            (case side2=>exact HC1_2.out)
            (case side3=>repeat (first|exact (Kd.z1 HR1_3.out HB.out)|(with_reducible refine Kd.z0 ?_ _)|(with_reducible refine Kd.z3 ?_ _)|(with_reducible refine Kd.z2 ?_)))
            (case side4=>exact HC1_3.out)
            rintro e w11 ⟨v117,v120,rfl,ho0,ho1,hb⟩
            refine ⟨_,rfl,?_⟩
            have n0_:=zA (Kd.z10 ho0 (zq14 (by repeat (first|(with_reducible first|exact HB.out|apply zq4|apply zq0|apply zq3|refine zq2 ?_ GE112.out|refine zq2 ?_ GE113.out)|exact HB.out))))
            have n1_:=zA (Kd.z10 ho1 (zq14 (by repeat (first|(with_reducible first|exact HB.out|apply zq4|apply zq0|apply zq3|refine zq2 ?_ GE112.out|refine zq2 ?_ GE113.out)|exact HB.out))))
            have n2_:=zA (zq13 (by (with_reducible repeat (first|refine zq6 ?_ _|refine zq8 ?_|refine zq5 ?_ _));exact BK112.out) hb)
            have n3_:=zA (zq13 (by (with_reducible repeat (first|refine zq6 ?_ _|refine zq8 ?_|refine zq5 ?_ _));exact BK113.out) hb)
            have n4_:=zA (zq11 (by repeat (first|(with_reducible first|exact HB.out|apply zq4|apply zq0|apply zq3|refine zq2 ?_ GE112.out|refine zq2 ?_ GE113.out)|exact HB.out)) hb)
            clear BK112
            clear BK113
            clear HB
            have HO118:=n0_
            have HO121:=n1_
            have BK112:=n2_
            have BK113:=n3_
            have HB:=n4_
            clear n0_ n1_ n2_ n3_ n4_
            (try clear hb)
            (try clear hk)
            (try clear ho0)
            (try clear ho1)
            refine hK.out _ _ ⟨zq1 BK112.out 0,zq1 BK112.out 1,zq1 BK112.out 2,zq1 BK112.out 3⟩ (fun hHeld=>?_)
            clear hK K
            refine norm_ (a':=?_) ?_ ?_
            rotate_left
            ·show Act.put _ (some 8) _=_
             simp only [Act.put,zL0,zL1,zL2,i64_w,i32_w]
             rfl
            exact norm_ (by first|(simp only [putAll,Act.put,zL0,zL1,zL2];done)|(simp only [putAll,Act.put,zL0,zL1,zL2];rfl)) (hJ2 (v117,v120) _ ⟨hHeld,(by (with_reducible repeat (first|apply Kd.z4|apply Kd.z7|apply Kd.z6));exact HO118.out),(by (with_reducible repeat (first|apply Kd.z4|apply Kd.z7|apply Kd.z6));exact HO121.out),(by (with_reducible repeat (first|refine zq6 ?_ _|refine zq8 ?_|refine zq5 ?_ _));exact BK112.out),(by (with_reducible repeat (first|refine zq6 ?_ _|refine zq8 ?_|refine zq5 ?_ _));exact BK113.out),(by repeat (first|(with_reducible first|exact HB.out|apply zq4|apply zq0|apply zq3|refine zq2 ?_ GE112.out|refine zq2 ?_ GE113.out)|exact HB.out))⟩)
           ·skip
            refine Kd.R_make_step (Kd.int .i64) _ 3 (by rfl) (N:=12) rfl 61 _ _ rfl (l1_2.length:Int) rfl rfl Tryd.underlying61 (.int .i64 0) 8 info3 rfl (by decide) (by omega) 0 (ok:=fun _=>True) (okp:=fun _=>True) rfl (fun _ hk=>hk) trivial (of_decide_eq_true (by first|(with_reducible assumption)|assumption)) (Nat.le_trans (Nat.mul_le_mul_right _ (of_decide_eq_true (by first|(with_reducible assumption)|assumption):(l1_2.length:Int).toNat≤35184372088832)) (by omega)) (Below.refl _ _) (Nat.le_refl _) ?_
            intro v123 w11 ho12 hb hg_ hnew_
            clear hg_ hnew_
            (first|rw [← Ny122.out] at ho12|(simp only [Int.reduceToNat] at ho12;rw [← Ny122.out] at ho12))
            have n0_:=zA (Kd.z10 ho12 (zq14 (by repeat (first|(with_reducible first|exact HB.out|apply zq4|apply zq0|apply zq3|refine zq2 ?_ GE112.out|refine zq2 ?_ GE113.out)|exact HB.out))))
            have n1_:=zA (zq13 (by (with_reducible repeat (first|refine zq6 ?_ _|refine zq8 ?_|refine zq5 ?_ _));exact BK112.out) hb)
            have n2_:=zA (zq13 (by (with_reducible repeat (first|refine zq6 ?_ _|refine zq8 ?_|refine zq5 ?_ _));exact BK113.out) hb)
            have n3_:=zA (zq11 (by repeat (first|(with_reducible first|exact HB.out|apply zq4|apply zq0|apply zq3|refine zq2 ?_ GE112.out|refine zq2 ?_ GE113.out)|exact HB.out)) hb)
            clear BK112
            clear BK113
            clear HB
            have HO124:=n0_
            have BK112:=n1_
            have BK113:=n2_
            have HB:=n3_
            clear n0_ n1_ n2_ n3_
            clear hb ho12
            refine hK.out _ _ ⟨zq1 BK112.out 0,zq1 BK112.out 1,zq1 BK112.out 2,zq1 BK112.out 3⟩ (fun hHeld=>?_)
            clear hK K
            refine norm_ (a':=?_) ?_ ?_
            rotate_left
            ·show Act.put _ (some 12) _=_
             simp only [Act.put,zL0,zL1,zL2,i64_w,i32_w]
             rfl
            exact norm_ (by first|(simp only [putAll,Act.put,zL0,zL1,zL2];done)|(simp only [putAll,Act.put,zL0,zL1,zL2];rfl)) (hJ6 (v123) _ ⟨hHeld,(by (with_reducible repeat (first|apply Kd.z4|apply Kd.z7|apply Kd.z6));exact HO124.out),(by (with_reducible repeat (first|refine zq6 ?_ _|refine zq8 ?_|refine zq5 ?_ _));exact BK112.out),(by (with_reducible repeat (first|refine zq6 ?_ _|refine zq8 ?_|refine zq5 ?_ _));exact BK113.out),(by repeat (first|(with_reducible first|exact HB.out|apply zq4|apply zq0|apply zq3|refine zq2 ?_ GE112.out|refine zq2 ?_ GE113.out)|exact HB.out))⟩)
           ·skip
            refine box_step ?hg (N:=5) ?hd (cs:=#[.string bz0,.string bz0,.string bz0,.slice none 0 0,.slice none 0 0,.int .i64 0,.int .i64 0,.slice none 0 0]) (t:=67) ?hr ?_;(case hd=>rfl);(case hg=>rfl);(case hr=>first|(go_simp;done)|(go_simp;rfl))
            intro gb125 hg w11 hbox hb
            have n0_:=zA (zq13 (by (with_reducible repeat (first|refine zq6 ?_ _|refine zq8 ?_|refine zq5 ?_ _));exact BK112.out) hb)
            have n1_:=zA (zq13 (by (with_reducible repeat (first|refine zq6 ?_ _|refine zq8 ?_|refine zq5 ?_ _));exact BK113.out) hb)
            have n2_:=zA (zq11 (by repeat (first|(with_reducible first|exact HB.out|apply zq4|apply zq0|apply zq3|refine zq2 ?_ GE112.out|refine zq2 ?_ GE113.out)|exact HB.out)) hb)
            have n3_:=zA (hbox)
            have n4_:=zA ((by rw [hg];exact (zq14 (by repeat (first|(with_reducible first|exact HB.out|apply zq4|apply zq0|apply zq3|refine zq2 ?_ GE112.out|refine zq2 ?_ GE113.out)|exact HB.out))):w.heap.size≤gb125))
            have n5_:=zA ((by rw [hg];exact (zq14 (by repeat (first|(with_reducible first|exact HB.out|apply zq4|apply zq0|apply zq3|refine zq2 ?_ GE112.out|refine zq2 ?_ GE113.out)|exact HB.out))):w.heap.size≤gb125))
            have n6_:=zA ((by rw [hg];exact Nat.ne_of_lt (zq25 (by (with_reducible repeat (first|refine zq6 ?_ _|refine zq8 ?_|refine zq5 ?_ _));exact BK112.out)):gb112≠gb125))
            have n7_:=zA ((by rw [hg];exact Nat.ne_of_gt (zq25 (by (with_reducible repeat (first|refine zq6 ?_ _|refine zq8 ?_|refine zq5 ?_ _));exact BK112.out)):gb125≠gb112))
            have n8_:=zA ((by rw [hg];exact Nat.ne_of_lt (zq25 (by (with_reducible repeat (first|refine zq6 ?_ _|refine zq8 ?_|refine zq5 ?_ _));exact BK113.out)):gb113≠gb125))
            have n9_:=zA ((by rw [hg];exact Nat.ne_of_gt (zq25 (by (with_reducible repeat (first|refine zq6 ?_ _|refine zq8 ?_|refine zq5 ?_ _));exact BK113.out)):gb125≠gb113))
            clear BK112
            clear BK113
            clear HB
            have BK112:=n0_
            have BK113:=n1_
            have HB:=n2_
            have BK125:=n3_
            have GW125:=n4_
            have GE125:=n5_
            have NB112_125:=n6_
            have NB125_112:=n7_
            have NB113_125:=n8_
            have NB125_113:=n9_
            clear n0_ n1_ n2_ n3_ n4_ n5_ n6_ n7_ n8_ n9_
            clear hb hbox hg
            refine hK.out _ _ ⟨zq1 BK112.out 0,zq1 BK112.out 1,zq1 BK112.out 2,zq1 BK112.out 3⟩ (fun hHeld=>?_)
            clear hK K
            refine norm_ (a':=?_) ?_ ?_
            rotate_left
            ·show Act.put _ (some 5) _=_
             simp only [Act.put,zL0,zL1,zL2,i64_w,i32_w]
             rfl
            exact norm_ (by first|(simp only [putAll,Act.put,zL0,zL1,zL2];done)|(simp only [putAll,Act.put,zL0,zL1,zL2];rfl)) (hJ8 (gb125) _ ⟨hHeld,(by (with_reducible repeat (first|refine zq6 ?_ _|refine zq8 ?_|refine zq5 ?_ _));exact BK112.out),(by (with_reducible repeat (first|refine zq6 ?_ _|refine zq8 ?_|refine zq5 ?_ _));exact BK113.out),(by (with_reducible repeat (first|refine zq6 ?_ _|refine zq8 ?_|refine zq5 ?_ _));exact BK125.out),GW125.out,GE125.out,NB112_125.out,NB125_112.out,NB113_125.out,NB125_113.out,(by repeat (first|(with_reducible first|exact HB.out|apply zq4|apply zq0|apply zq3|refine zq2 ?_ GE112.out|refine zq2 ?_ GE113.out|refine zq2 ?_ GE125.out)|exact HB.out))⟩)
          ·skip
           rintro gb125 w12 ⟨hS_,h0_,h1_,h2_,h3_,h4_,h5_,h6_,h7_,h8_,h9_⟩
           have n0_:Aside0 (w12.heap[gb112]?=some (.cells #[.string a1_0,.string a1_1,.slice A1_2 l1_2.length c1_2,.slice A1_3 l1_3.length c1_3] 33 (0,0))):=⟨h0_⟩
           have n1_:Aside0 (w12.heap[gb113]?=some (.cells #[.string bz0,.string bz0,.string bz0,.slice none 0 0,.slice none 0 0,.int .i64 0,.int .i64 0,.slice none 0 0] 67 (0,0))):=⟨h1_⟩
           have n2_:Aside0 (w12.heap[gb125]?=some (.cells #[.string bz0,.string bz0,.string bz0,.slice none 0 0,.slice none 0 0,.int .i64 0,.int .i64 0,.slice none 0 0] 67 (0,0))):=⟨h2_⟩
           have n3_:Aside0 (w.heap.size≤gb125):=⟨h3_⟩
           have n4_:Aside0 (w.heap.size≤gb125):=⟨h4_⟩
           have n5_:Aside0 (gb112≠gb125):=⟨h5_⟩
           have n6_:Aside0 (gb125≠gb112):=⟨h6_⟩
           have n7_:Aside0 (gb113≠gb125):=⟨h7_⟩
           have n8_:Aside0 (gb125≠gb113):=⟨h8_⟩
           have n9_:Aside0 (Below w.heap.size w w12):=⟨h9_⟩
           clear BK112
           clear BK113
           clear HB
           clear h0_ h1_ h2_ h3_ h4_ h5_ h6_ h7_ h8_ h9_
           have BK112:=n0_
           have BK113:=n1_
           have BK125:=n2_
           have GW125:=n3_
           have GE125:=n4_
           have NB112_125:=n5_
           have NB125_112:=n6_
           have NB113_125:=n7_
           have NB125_113:=n8_
           have HB:=n9_
           clear n0_ n1_ n2_ n3_ n4_ n5_ n6_ n7_ n8_ n9_
           have hHeld:w12.cell? ⟨gb112,0,none⟩=some (.string a1_0)∧w12.cell? ⟨gb112,1,none⟩=some (.string a1_1)∧w12.cell? ⟨gb112,2,none⟩=some (.slice A1_2 l1_2.length c1_2)∧w12.cell? ⟨gb112,3,none⟩=some (.slice A1_3 l1_3.length c1_3):=hS_
           refine norm_ (a':=?_) ?_ ?_
           rotate_left
           ·simp only [putAll,Act.put,zL0,zL1,zL2]
            rfl
           refine two_ (i:=2) (j:=6) (Ni:=some 8) (Nj:=some 12) #[true,true,true,true,true,true,false,false,true,false] #[true,true,false,true,true,true,true,false,true,false] rfl rfl rfl rfl (two_of HT_.out (by kernel_rfl)) (by decide) (by decide) (fun K hK=>?_) (fun K hK=>?_)
           ·skip
            refine goes_ Tryd.func82 (by kernel_rfl) rfl #[.agg #[.string a1_0,.string a1_1,.slice A1_2 l1_2.length c1_2,.slice A1_3 l1_3.length c1_3]] (by rfl) rfl rfl (by (try simp only [zL3,zL4,zL5]);first|done|rfl|(simp only [zL6,zL7];rfl)) ?_
            with_reducible refine (impl_Mail_copied.calls a1_0 a1_1 _ _ l1_2 _ _ l1_3 t114 t115 t116 t119 _ ?side1 ?side2 ?side3 ?side4 A3.out).mono ?_
            (case side1=>repeat (first|exact (Kd.z1 HR1_2.out HB.out)|(with_reducible refine Kd.z0 ?_ _)|(with_reducible refine Kd.z3 ?_ _)|(with_reducible refine Kd.z2 ?_)))
            (case side2=>exact HC1_2.out)
            (case side3=>repeat (first|exact (Kd.z1 HR1_3.out HB.out)|(with_reducible refine Kd.z0 ?_ _)|(with_reducible refine Kd.z3 ?_ _)|(with_reducible refine Kd.z2 ?_)))
            (case side4=>exact HC1_3.out)
            rintro e w13 ⟨v117,v120,rfl,ho0,ho1,hb⟩
            refine ⟨_,rfl,?_⟩
            have n0_:=zA (Kd.z10 ho0 (zq14 (by repeat (first|(with_reducible first|exact HB.out|apply zq4|apply zq0|apply zq3|refine zq2 ?_ GE112.out|refine zq2 ?_ GE113.out|refine zq2 ?_ GE125.out)|exact HB.out))))
            have n1_:=zA (Kd.z10 ho1 (zq14 (by repeat (first|(with_reducible first|exact HB.out|apply zq4|apply zq0|apply zq3|refine zq2 ?_ GE112.out|refine zq2 ?_ GE113.out|refine zq2 ?_ GE125.out)|exact HB.out))))
            have n2_:=zA (zq13 (by (with_reducible repeat (first|refine zq6 ?_ _|refine zq8 ?_|refine zq5 ?_ _));exact BK112.out) hb)
            have n3_:=zA (zq13 (by (with_reducible repeat (first|refine zq6 ?_ _|refine zq8 ?_|refine zq5 ?_ _));exact BK113.out) hb)
            have n4_:=zA (zq13 (by (with_reducible repeat (first|refine zq6 ?_ _|refine zq8 ?_|refine zq5 ?_ _));exact BK125.out) hb)
            have n5_:=zA (zq11 (by repeat (first|(with_reducible first|exact HB.out|apply zq4|apply zq0|apply zq3|refine zq2 ?_ GE112.out|refine zq2 ?_ GE113.out|refine zq2 ?_ GE125.out)|exact HB.out)) hb)
            clear BK112
            clear BK113
            clear BK125
            clear HB
            have HO118:=n0_
            have HO121:=n1_
            have BK112:=n2_
            have BK113:=n3_
            have BK125:=n4_
            have HB:=n5_
            clear n0_ n1_ n2_ n3_ n4_ n5_
            (try clear hb)
            (try clear hk)
            (try clear ho0)
            (try clear ho1)
            refine hK.out _ _ ⟨zq1 BK112.out 0,zq1 BK112.out 1,zq1 BK112.out 2,zq1 BK112.out 3⟩ (fun hHeld=>?_)
            clear hK K
            refine norm_ (a':=?_) ?_ ?_
            rotate_left
            ·show Act.put _ (some 8) _=_
             simp only [Act.put,zL0,zL1,zL2,i64_w,i32_w]
             rfl
            exact norm_ (by first|(simp only [putAll,Act.put,zL0,zL1,zL2];done)|(simp only [putAll,Act.put,zL0,zL1,zL2];rfl)) (hJ2_8 (v117,v120,gb125) _ ⟨hHeld,(by (with_reducible repeat (first|apply Kd.z4|apply Kd.z7|apply Kd.z6));exact HO118.out),(by (with_reducible repeat (first|apply Kd.z4|apply Kd.z7|apply Kd.z6));exact HO121.out),(by (with_reducible repeat (first|refine zq6 ?_ _|refine zq8 ?_|refine zq5 ?_ _));exact BK112.out),(by (with_reducible repeat (first|refine zq6 ?_ _|refine zq8 ?_|refine zq5 ?_ _));exact BK113.out),(by (with_reducible repeat (first|refine zq6 ?_ _|refine zq8 ?_|refine zq5 ?_ _));exact BK125.out),GW125.out,GE125.out,NB112_125.out,NB125_112.out,NB113_125.out,NB125_113.out,(by repeat (first|(with_reducible first|exact HB.out|apply zq4|apply zq0|apply zq3|refine zq2 ?_ GE112.out|refine zq2 ?_ GE113.out|refine zq2 ?_ GE125.out)|exact HB.out))⟩)
           ·skip
            refine Kd.R_make_step (Kd.int .i64) _ 3 (by rfl) (N:=12) rfl 61 _ _ rfl (l1_2.length:Int) rfl rfl Tryd.underlying61 (.int .i64 0) 8 info3 rfl (by decide) (by omega) 0 (ok:=fun _=>True) (okp:=fun _=>True) rfl (fun _ hk=>hk) trivial (of_decide_eq_true (by first|(with_reducible assumption)|assumption)) (Nat.le_trans (Nat.mul_le_mul_right _ (of_decide_eq_true (by first|(with_reducible assumption)|assumption):(l1_2.length:Int).toNat≤35184372088832)) (by omega)) (Below.refl _ _) (Nat.le_refl _) ?_
            intro v123 w13 ho14 hb hg_ hnew_
            clear hg_ hnew_
            (first|rw [← Ny122.out] at ho14|(simp only [Int.reduceToNat] at ho14;rw [← Ny122.out] at ho14))
            have n0_:=zA (Kd.z10 ho14 (zq14 (by repeat (first|(with_reducible first|exact HB.out|apply zq4|apply zq0|apply zq3|refine zq2 ?_ GE112.out|refine zq2 ?_ GE113.out|refine zq2 ?_ GE125.out)|exact HB.out))))
            have n1_:=zA (zq13 (by (with_reducible repeat (first|refine zq6 ?_ _|refine zq8 ?_|refine zq5 ?_ _));exact BK112.out) hb)
            have n2_:=zA (zq13 (by (with_reducible repeat (first|refine zq6 ?_ _|refine zq8 ?_|refine zq5 ?_ _));exact BK113.out) hb)
            have n3_:=zA (zq13 (by (with_reducible repeat (first|refine zq6 ?_ _|refine zq8 ?_|refine zq5 ?_ _));exact BK125.out) hb)
            have n4_:=zA (zq11 (by repeat (first|(with_reducible first|exact HB.out|apply zq4|apply zq0|apply zq3|refine zq2 ?_ GE112.out|refine zq2 ?_ GE113.out|refine zq2 ?_ GE125.out)|exact HB.out)) hb)
            clear BK112
            clear BK113
            clear BK125
            clear HB
            have HO124:=n0_
            have BK112:=n1_
            have BK113:=n2_
            have BK125:=n3_
            have HB:=n4_
            clear n0_ n1_ n2_ n3_ n4_
            clear hb ho14
            refine hK.out _ _ ⟨zq1 BK112.out 0,zq1 BK112.out 1,zq1 BK112.out 2,zq1 BK112.out 3⟩ (fun hHeld=>?_)
            clear hK K
            refine norm_ (a':=?_) ?_ ?_
            rotate_left
            ·show Act.put _ (some 12) _=_
             simp only [Act.put,zL0,zL1,zL2,i64_w,i32_w]
             rfl
            exact norm_ (by first|(simp only [putAll,Act.put,zL0,zL1,zL2];done)|(simp only [putAll,Act.put,zL0,zL1,zL2];rfl)) (hJ6_8 (v123,gb125) _ ⟨hHeld,(by (with_reducible repeat (first|apply Kd.z4|apply Kd.z7|apply Kd.z6));exact HO124.out),(by (with_reducible repeat (first|refine zq6 ?_ _|refine zq8 ?_|refine zq5 ?_ _));exact BK112.out),(by (with_reducible repeat (first|refine zq6 ?_ _|refine zq8 ?_|refine zq5 ?_ _));exact BK113.out),(by (with_reducible repeat (first|refine zq6 ?_ _|refine zq8 ?_|refine zq5 ?_ _));exact BK125.out),GW125.out,GE125.out,NB112_125.out,NB125_112.out,NB113_125.out,NB125_113.out,(by repeat (first|(with_reducible first|exact HB.out|apply zq4|apply zq0|apply zq3|refine zq2 ?_ GE112.out|refine zq2 ?_ GE113.out|refine zq2 ?_ GE125.out)|exact HB.out))⟩)
         ·skip
          rintro v123 w13 ⟨hS_,h0_,h1_,h2_,h3_⟩
          have n0_:Aside0 (Kd.R (Kd.int .i64) 3 w13 w.heap.size (fun _=>True) v123 y122):=⟨h0_⟩
          have n1_:Aside0 (w13.heap[gb112]?=some (.cells #[.string a1_0,.string a1_1,.slice A1_2 l1_2.length c1_2,.slice A1_3 l1_3.length c1_3] 33 (0,0))):=⟨h1_⟩
          have n2_:Aside0 (w13.heap[gb113]?=some (.cells #[.string bz0,.string bz0,.string bz0,.slice none 0 0,.slice none 0 0,.int .i64 0,.int .i64 0,.slice none 0 0] 67 (0,0))):=⟨h2_⟩
          have n3_:Aside0 (Below w.heap.size w w13):=⟨h3_⟩
          clear BK112
          clear BK113
          clear HB
          clear h0_ h1_ h2_ h3_
          have HO124:=n0_
          have BK112:=n1_
          have BK113:=n2_
          have HB:=n3_
          clear n0_ n1_ n2_ n3_
          have hHeld:w13.cell? ⟨gb112,0,none⟩=some (.string a1_0)∧w13.cell? ⟨gb112,1,none⟩=some (.string a1_1)∧w13.cell? ⟨gb112,2,none⟩=some (.slice A1_2 l1_2.length c1_2)∧w13.cell? ⟨gb112,3,none⟩=some (.slice A1_3 l1_3.length c1_3):=hS_
          refine norm_ (a':=?_) ?_ ?_
          rotate_left
          ·simp only [putAll,Act.put,zL0,zL1,zL2]
           rfl
          refine two_ (i:=2) (j:=8) (Ni:=some 8) (Nj:=some 5) #[true,true,true,true,true,true,true,false,false,false] #[true,true,false,true,true,true,true,false,true,false] rfl rfl rfl rfl (two_of HT_.out (by kernel_rfl)) (by decide) (by decide) (fun K hK=>?_) (fun K hK=>?_)
          ·skip
           refine goes_ Tryd.func82 (by kernel_rfl) rfl #[.agg #[.string a1_0,.string a1_1,.slice A1_2 l1_2.length c1_2,.slice A1_3 l1_3.length c1_3]] (by rfl) rfl rfl (by (try simp only [zL3,zL4,zL5]);first|done|rfl|(simp only [zL6,zL7];rfl)) ?_
           with_reducible refine (impl_Mail_copied.calls a1_0 a1_1 _ _ l1_2 _ _ l1_3 t114 t115 t116 t119 _ ?side1 ?side2 ?side3 ?side4 A3.out).mono ?_
           (case side1=>repeat (first|exact (Kd.z1 HR1_2.out HB.out)|(with_reducible refine Kd.z0 ?_ _)|(with_reducible refine Kd.z3 ?_ _)|(with_reducible refine Kd.z2 ?_)))
           (case side2=>exact HC1_2.out)
           (case side3=>repeat (first|exact (Kd.z1 HR1_3.out HB.out)|(with_reducible refine Kd.z0 ?_ _)|(with_reducible refine Kd.z3 ?_ _)|(with_reducible refine Kd.z2 ?_)))
           (case side4=>exact HC1_3.out)
           rintro e w14 ⟨v117,v120,rfl,ho0,ho1,hb⟩
           refine ⟨_,rfl,?_⟩
           have n0_:=zA (Kd.z5 (by (with_reducible repeat (first|apply Kd.z4|apply Kd.z7|apply Kd.z6));exact HO124.out) hb)
           have n1_:=zA (Kd.z10 ho0 (zq14 (by repeat (first|(with_reducible first|exact HB.out|apply zq4|apply zq0|apply zq3|refine zq2 ?_ GE112.out|refine zq2 ?_ GE113.out)|exact HB.out))))
           have n2_:=zA (Kd.z10 ho1 (zq14 (by repeat (first|(with_reducible first|exact HB.out|apply zq4|apply zq0|apply zq3|refine zq2 ?_ GE112.out|refine zq2 ?_ GE113.out)|exact HB.out))))
           have n3_:=zA (zq13 (by (with_reducible repeat (first|refine zq6 ?_ _|refine zq8 ?_|refine zq5 ?_ _));exact BK112.out) hb)
           have n4_:=zA (zq13 (by (with_reducible repeat (first|refine zq6 ?_ _|refine zq8 ?_|refine zq5 ?_ _));exact BK113.out) hb)
           have n5_:=zA (zq11 (by repeat (first|(with_reducible first|exact HB.out|apply zq4|apply zq0|apply zq3|refine zq2 ?_ GE112.out|refine zq2 ?_ GE113.out)|exact HB.out)) hb)
           clear HO124
           clear BK112
           clear BK113
           clear HB
           have HO124:=n0_
           have HO118:=n1_
           have HO121:=n2_
           have BK112:=n3_
           have BK113:=n4_
           have HB:=n5_
           clear n0_ n1_ n2_ n3_ n4_ n5_
           (try clear hb)
           (try clear hk)
           (try clear ho0)
           (try clear ho1)
           obtain ⟨Ao15,co15,eo15⟩:=Kd.z13 HO124.out
           (first|subst eo15|(injection eo15 with f1_ f2_ f3_;have f4_:=f1_.symm;have f5_:=f3_.symm;clear f1_ f2_ f3_;subst f4_;subst f5_))
           obtain ⟨Ao16,co16,eo16⟩:=Kd.z13 HO121.out
           (first|subst eo16|(injection eo16 with f1_ f2_ f3_;have f4_:=f1_.symm;have f5_:=f3_.symm;clear f1_ f2_ f3_;subst f4_;subst f5_))
           obtain ⟨Ao17,co17,eo17⟩:=Kd.z13 HO118.out
           (first|subst eo17|(injection eo17 with f1_ f2_ f3_;have f4_:=f1_.symm;have f5_:=f3_.symm;clear f1_ f2_ f3_;subst f4_;subst f5_))
           refine hK.out _ _ ⟨zq1 BK112.out 0,zq1 BK112.out 1,zq1 BK112.out 2,zq1 BK112.out 3⟩ (fun hHeld=>?_)
           clear hK K
           refine norm_ (a':=?_) ?_ ?_
           rotate_left
           ·show Act.put _ (some 8) _=_
            simp only [Act.put,zL0,zL1,zL2,i64_w,i32_w]
            rfl
           refine pure_ (i:=7) (N:=some 13) (v:=?_) (a':=?_) #[true,true,true,true,true,true,true,true,false,false] rfl rfl (any_of HT_.out (by kernel_rfl)) (fun _ _ _ h=>h) (Or.inl ⟨by rfl,?_⟩) ?_ ?_
           rotate_left
           ·intro w'
            go_simp
            with_reducible rfl
           rotate_left
           ·simp only [Act.put,zL0,zL1,zL2,i64_w,i32_w]
            rfl
           exact norm_ (by first|(simp only [putAll,Act.put,zL0,zL1,zL2];done)|(simp only [putAll,Act.put,zL0,zL1,zL2];rfl)) (hJ2_6 (.slice Ao17 t116.length co17,.slice Ao16 t119.length co16,.slice Ao15 y122.length co15) _ ⟨hHeld,(by (with_reducible repeat (first|apply Kd.z4|apply Kd.z7|apply Kd.z6));exact HO118.out),(by (with_reducible repeat (first|apply Kd.z4|apply Kd.z7|apply Kd.z6));exact HO121.out),(by (with_reducible repeat (first|apply Kd.z4|apply Kd.z7|apply Kd.z6));exact HO124.out),(by (with_reducible repeat (first|refine zq6 ?_ _|refine zq8 ?_|refine zq5 ?_ _));exact BK112.out),(by (with_reducible repeat (first|refine zq6 ?_ _|refine zq8 ?_|refine zq5 ?_ _));exact BK113.out),(by repeat (first|(with_reducible first|exact HB.out|apply zq4|apply zq0|apply zq3|refine zq2 ?_ GE112.out|refine zq2 ?_ GE113.out)|exact HB.out))⟩)
          ·skip
           refine box_step ?hg (N:=5) ?hd (cs:=#[.string bz0,.string bz0,.string bz0,.slice none 0 0,.slice none 0 0,.int .i64 0,.int .i64 0,.slice none 0 0]) (t:=67) ?hr ?_;(case hd=>rfl);(case hg=>rfl);(case hr=>first|(go_simp;done)|(go_simp;rfl))
           intro gb125 hg w14 hbox hb
           have n0_:=zA (Kd.z5 (by (with_reducible repeat (first|apply Kd.z4|apply Kd.z7|apply Kd.z6));exact HO124.out) hb)
           have n1_:=zA (zq13 (by (with_reducible repeat (first|refine zq6 ?_ _|refine zq8 ?_|refine zq5 ?_ _));exact BK112.out) hb)
           have n2_:=zA (zq13 (by (with_reducible repeat (first|refine zq6 ?_ _|refine zq8 ?_|refine zq5 ?_ _));exact BK113.out) hb)
           have n3_:=zA (zq11 (by repeat (first|(with_reducible first|exact HB.out|apply zq4|apply zq0|apply zq3|refine zq2 ?_ GE112.out|refine zq2 ?_ GE113.out)|exact HB.out)) hb)
           have n4_:=zA (hbox)
           have n5_:=zA ((by rw [hg];exact (zq14 (by repeat (first|(with_reducible first|exact HB.out|apply zq4|apply zq0|apply zq3|refine zq2 ?_ GE112.out|refine zq2 ?_ GE113.out)|exact HB.out))):w.heap.size≤gb125))
           have n6_:=zA ((by rw [hg];exact (zq14 (by repeat (first|(with_reducible first|exact HB.out|apply zq4|apply zq0|apply zq3|refine zq2 ?_ GE112.out|refine zq2 ?_ GE113.out)|exact HB.out))):w.heap.size≤gb125))
           have n7_:=zA ((by rw [hg];exact Nat.ne_of_lt (zq25 (by (with_reducible repeat (first|refine zq6 ?_ _|refine zq8 ?_|refine zq5 ?_ _));exact BK112.out)):gb112≠gb125))
           have n8_:=zA ((by rw [hg];exact Nat.ne_of_gt (zq25 (by (with_reducible repeat (first|refine zq6 ?_ _|refine zq8 ?_|refine zq5 ?_ _));exact BK112.out)):gb125≠gb112))
           have n9_:=zA ((by rw [hg];exact Nat.ne_of_lt (zq25 (by (with_reducible repeat (first|refine zq6 ?_ _|refine zq8 ?_|refine zq5 ?_ _));exact BK113.out)):gb113≠gb125))
           have n10_:=zA ((by rw [hg];exact Nat.ne_of_gt (zq25 (by (with_reducible repeat (first|refine zq6 ?_ _|refine zq8 ?_|refine zq5 ?_ _));exact BK113.out)):gb125≠gb113))
           clear HO124
           clear BK112
           clear BK113
           clear HB
           have HO124:=n0_
           have BK112:=n1_
           have BK113:=n2_
           have HB:=n3_
           have BK125:=n4_
           have GW125:=n5_
           have GE125:=n6_
           have NB112_125:=n7_
           have NB125_112:=n8_
           have NB113_125:=n9_
           have NB125_113:=n10_
           clear n0_ n1_ n2_ n3_ n4_ n5_ n6_ n7_ n8_ n9_ n10_
           clear hb hbox hg
           refine hK.out _ _ ⟨zq1 BK112.out 0,zq1 BK112.out 1,zq1 BK112.out 2,zq1 BK112.out 3⟩ (fun hHeld=>?_)
           clear hK K
           refine norm_ (a':=?_) ?_ ?_
           rotate_left
           ·show Act.put _ (some 5) _=_
            simp only [Act.put,zL0,zL1,zL2,i64_w,i32_w]
            rfl
           exact norm_ (by first|(simp only [putAll,Act.put,zL0,zL1,zL2];done)|(simp only [putAll,Act.put,zL0,zL1,zL2];rfl)) (hJ6_8 (v123,gb125) _ ⟨hHeld,(by (with_reducible repeat (first|apply Kd.z4|apply Kd.z7|apply Kd.z6));exact HO124.out),(by (with_reducible repeat (first|refine zq6 ?_ _|refine zq8 ?_|refine zq5 ?_ _));exact BK112.out),(by (with_reducible repeat (first|refine zq6 ?_ _|refine zq8 ?_|refine zq5 ?_ _));exact BK113.out),(by (with_reducible repeat (first|refine zq6 ?_ _|refine zq8 ?_|refine zq5 ?_ _));exact BK125.out),GW125.out,GE125.out,NB112_125.out,NB125_112.out,NB113_125.out,NB125_113.out,(by repeat (first|(with_reducible first|exact HB.out|apply zq4|apply zq0|apply zq3|refine zq2 ?_ GE112.out|refine zq2 ?_ GE113.out|refine zq2 ?_ GE125.out)|exact HB.out))⟩)
        ·skip
         rintro ⟨v117,v120⟩ w12 ⟨hS_,h0_,h1_,h2_,h3_,h4_⟩
         have n0_:Aside0 (Kd.R k30 30 w12 w.heap.size (fun _=>True) v117 t116):=⟨h0_⟩
         have n1_:Aside0 (Kd.R Kd.string 9 w12 w.heap.size (fun _=>True) v120 t119):=⟨h1_⟩
         have n2_:Aside0 (w12.heap[gb112]?=some (.cells #[.string a1_0,.string a1_1,.slice A1_2 l1_2.length c1_2,.slice A1_3 l1_3.length c1_3] 33 (0,0))):=⟨h2_⟩
         have n3_:Aside0 (w12.heap[gb113]?=some (.cells #[.string bz0,.string bz0,.string bz0,.slice none 0 0,.slice none 0 0,.int .i64 0,.int .i64 0,.slice none 0 0] 67 (0,0))):=⟨h3_⟩
         have n4_:Aside0 (Below w.heap.size w w12):=⟨h4_⟩
         clear BK112
         clear BK113
         clear HB
         clear h0_ h1_ h2_ h3_ h4_
         have HO118:=n0_
         have HO121:=n1_
         have BK112:=n2_
         have BK113:=n3_
         have HB:=n4_
         clear n0_ n1_ n2_ n3_ n4_
         have hHeld:w12.cell? ⟨gb112,0,none⟩=some (.string a1_0)∧w12.cell? ⟨gb112,1,none⟩=some (.string a1_1)∧w12.cell? ⟨gb112,2,none⟩=some (.slice A1_2 l1_2.length c1_2)∧w12.cell? ⟨gb112,3,none⟩=some (.slice A1_3 l1_3.length c1_3):=hS_
         refine norm_ (a':=?_) ?_ ?_
         rotate_left
         ·simp only [putAll,Act.put,zL0,zL1,zL2]
          rfl
         refine two_ (i:=6) (j:=8) (Ni:=some 12) (Nj:=some 5) #[true,true,true,true,true,true,true,false,false,false] #[true,true,true,true,true,true,false,false,true,false] rfl rfl rfl rfl (two_of HT_.out (by kernel_rfl)) (by decide) (by decide) (fun K hK=>?_) (fun K hK=>?_)
         ·skip
          refine Kd.R_make_step (Kd.int .i64) _ 3 (by rfl) (N:=12) rfl 61 _ _ rfl (l1_2.length:Int) rfl rfl Tryd.underlying61 (.int .i64 0) 8 info3 rfl (by decide) (by omega) 0 (ok:=fun _=>True) (okp:=fun _=>True) rfl (fun _ hk=>hk) trivial (of_decide_eq_true (by first|(with_reducible assumption)|assumption)) (Nat.le_trans (Nat.mul_le_mul_right _ (of_decide_eq_true (by first|(with_reducible assumption)|assumption):(l1_2.length:Int).toNat≤35184372088832)) (by omega)) (Below.refl _ _) (Nat.le_refl _) ?_
          intro v123 w13 ho14 hb hg_ hnew_
          clear hg_ hnew_
          (first|rw [← Ny122.out] at ho14|(simp only [Int.reduceToNat] at ho14;rw [← Ny122.out] at ho14))
          have n0_:=zA (Kd.z5 (by (with_reducible repeat (first|apply Kd.z4|apply Kd.z7|apply Kd.z6));exact HO118.out) hb)
          have n1_:=zA (Kd.z5 (by (with_reducible repeat (first|apply Kd.z4|apply Kd.z7|apply Kd.z6));exact HO121.out) hb)
          have n2_:=zA (Kd.z10 ho14 (zq14 (by repeat (first|(with_reducible first|exact HB.out|apply zq4|apply zq0|apply zq3|refine zq2 ?_ GE112.out|refine zq2 ?_ GE113.out)|exact HB.out))))
          have n3_:=zA (zq13 (by (with_reducible repeat (first|refine zq6 ?_ _|refine zq8 ?_|refine zq5 ?_ _));exact BK112.out) hb)
          have n4_:=zA (zq13 (by (with_reducible repeat (first|refine zq6 ?_ _|refine zq8 ?_|refine zq5 ?_ _));exact BK113.out) hb)
          have n5_:=zA (zq11 (by repeat (first|(with_reducible first|exact HB.out|apply zq4|apply zq0|apply zq3|refine zq2 ?_ GE112.out|refine zq2 ?_ GE113.out)|exact HB.out)) hb)
          clear HO118
          clear HO121
          clear BK112
          clear BK113
          clear HB
          have HO118:=n0_
          have HO121:=n1_
          have HO124:=n2_
          have BK112:=n3_
          have BK113:=n4_
          have HB:=n5_
          clear n0_ n1_ n2_ n3_ n4_ n5_
          clear hb ho14
          obtain ⟨Ao15,co15,eo15⟩:=Kd.z13 HO124.out
          (first|subst eo15|(injection eo15 with f1_ f2_ f3_;have f4_:=f1_.symm;have f5_:=f3_.symm;clear f1_ f2_ f3_;subst f4_;subst f5_))
          obtain ⟨Ao16,co16,eo16⟩:=Kd.z13 HO121.out
          (first|subst eo16|(injection eo16 with f1_ f2_ f3_;have f4_:=f1_.symm;have f5_:=f3_.symm;clear f1_ f2_ f3_;subst f4_;subst f5_))
          obtain ⟨Ao17,co17,eo17⟩:=Kd.z13 HO118.out
          (first|subst eo17|(injection eo17 with f1_ f2_ f3_;have f4_:=f1_.symm;have f5_:=f3_.symm;clear f1_ f2_ f3_;subst f4_;subst f5_))
          refine hK.out _ _ ⟨zq1 BK112.out 0,zq1 BK112.out 1,zq1 BK112.out 2,zq1 BK112.out 3⟩ (fun hHeld=>?_)
          clear hK K
          refine norm_ (a':=?_) ?_ ?_
          rotate_left
          ·show Act.put _ (some 12) _=_
           simp only [Act.put,zL0,zL1,zL2,i64_w,i32_w]
           rfl
          refine pure_ (i:=7) (N:=some 13) (v:=?_) (a':=?_) #[true,true,true,true,true,true,true,true,false,false] rfl rfl (any_of HT_.out (by kernel_rfl)) (fun _ _ _ h=>h) (Or.inl ⟨by rfl,?_⟩) ?_ ?_
          rotate_left
          ·intro w'
           go_simp
           with_reducible rfl
          rotate_left
          ·simp only [Act.put,zL0,zL1,zL2,i64_w,i32_w]
           rfl
          exact norm_ (by first|(simp only [putAll,Act.put,zL0,zL1,zL2];done)|(simp only [putAll,Act.put,zL0,zL1,zL2];rfl)) (hJ2_6 (.slice Ao17 t116.length co17,.slice Ao16 t119.length co16,.slice Ao15 y122.length co15) _ ⟨hHeld,(by (with_reducible repeat (first|apply Kd.z4|apply Kd.z7|apply Kd.z6));exact HO118.out),(by (with_reducible repeat (first|apply Kd.z4|apply Kd.z7|apply Kd.z6));exact HO121.out),(by (with_reducible repeat (first|apply Kd.z4|apply Kd.z7|apply Kd.z6));exact HO124.out),(by (with_reducible repeat (first|refine zq6 ?_ _|refine zq8 ?_|refine zq5 ?_ _));exact BK112.out),(by (with_reducible repeat (first|refine zq6 ?_ _|refine zq8 ?_|refine zq5 ?_ _));exact BK113.out),(by repeat (first|(with_reducible first|exact HB.out|apply zq4|apply zq0|apply zq3|refine zq2 ?_ GE112.out|refine zq2 ?_ GE113.out)|exact HB.out))⟩)
         ·skip
          refine box_step ?hg (N:=5) ?hd (cs:=#[.string bz0,.string bz0,.string bz0,.slice none 0 0,.slice none 0 0,.int .i64 0,.int .i64 0,.slice none 0 0]) (t:=67) ?hr ?_;(case hd=>rfl);(case hg=>rfl);(case hr=>first|(go_simp;done)|(go_simp;rfl))
          intro gb125 hg w13 hbox hb
          have n0_:=zA (Kd.z5 (by (with_reducible repeat (first|apply Kd.z4|apply Kd.z7|apply Kd.z6));exact HO118.out) hb)
          have n1_:=zA (Kd.z5 (by (with_reducible repeat (first|apply Kd.z4|apply Kd.z7|apply Kd.z6));exact HO121.out) hb)
          have n2_:=zA (zq13 (by (with_reducible repeat (first|refine zq6 ?_ _|refine zq8 ?_|refine zq5 ?_ _));exact BK112.out) hb)
          have n3_:=zA (zq13 (by (with_reducible repeat (first|refine zq6 ?_ _|refine zq8 ?_|refine zq5 ?_ _));exact BK113.out) hb)
          have n4_:=zA (zq11 (by repeat (first|(with_reducible first|exact HB.out|apply zq4|apply zq0|apply zq3|refine zq2 ?_ GE112.out|refine zq2 ?_ GE113.out)|exact HB.out)) hb)
          have n5_:=zA (hbox)
          have n6_:=zA ((by rw [hg];exact (zq14 (by repeat (first|(with_reducible first|exact HB.out|apply zq4|apply zq0|apply zq3|refine zq2 ?_ GE112.out|refine zq2 ?_ GE113.out)|exact HB.out))):w.heap.size≤gb125))
          have n7_:=zA ((by rw [hg];exact (zq14 (by repeat (first|(with_reducible first|exact HB.out|apply zq4|apply zq0|apply zq3|refine zq2 ?_ GE112.out|refine zq2 ?_ GE113.out)|exact HB.out))):w.heap.size≤gb125))
          have n8_:=zA ((by rw [hg];exact Nat.ne_of_lt (zq25 (by (with_reducible repeat (first|refine zq6 ?_ _|refine zq8 ?_|refine zq5 ?_ _));exact BK112.out)):gb112≠gb125))
          have n9_:=zA ((by rw [hg];exact Nat.ne_of_gt (zq25 (by (with_reducible repeat (first|refine zq6 ?_ _|refine zq8 ?_|refine zq5 ?_ _));exact BK112.out)):gb125≠gb112))
          have n10_:=zA ((by rw [hg];exact Nat.ne_of_lt (zq25 (by (with_reducible repeat (first|refine zq6 ?_ _|refine zq8 ?_|refine zq5 ?_ _));exact BK113.out)):gb113≠gb125))
          have n11_:=zA ((by rw [hg];exact Nat.ne_of_gt (zq25 (by (with_reducible repeat (first|refine zq6 ?_ _|refine zq8 ?_|refine zq5 ?_ _));exact BK113.out)):gb125≠gb113))
          clear HO118
          clear HO121
          clear BK112
          clear BK113
          clear HB
          have HO118:=n0_
          have HO121:=n1_
          have BK112:=n2_
          have BK113:=n3_
          have HB:=n4_
          have BK125:=n5_
          have GW125:=n6_
          have GE125:=n7_
          have NB112_125:=n8_
          have NB125_112:=n9_
          have NB113_125:=n10_
          have NB125_113:=n11_
          clear n0_ n1_ n2_ n3_ n4_ n5_ n6_ n7_ n8_ n9_ n10_ n11_
          clear hb hbox hg
          refine hK.out _ _ ⟨zq1 BK112.out 0,zq1 BK112.out 1,zq1 BK112.out 2,zq1 BK112.out 3⟩ (fun hHeld=>?_)
          clear hK K
          refine norm_ (a':=?_) ?_ ?_
          rotate_left
          ·show Act.put _ (some 5) _=_
           simp only [Act.put,zL0,zL1,zL2,i64_w,i32_w]
           rfl
          exact norm_ (by first|(simp only [putAll,Act.put,zL0,zL1,zL2];done)|(simp only [putAll,Act.put,zL0,zL1,zL2];rfl)) (hJ2_8 (v117,v120,gb125) _ ⟨hHeld,(by (with_reducible repeat (first|apply Kd.z4|apply Kd.z7|apply Kd.z6));exact HO118.out),(by (with_reducible repeat (first|apply Kd.z4|apply Kd.z7|apply Kd.z6));exact HO121.out),(by (with_reducible repeat (first|refine zq6 ?_ _|refine zq8 ?_|refine zq5 ?_ _));exact BK112.out),(by (with_reducible repeat (first|refine zq6 ?_ _|refine zq8 ?_|refine zq5 ?_ _));exact BK113.out),(by (with_reducible repeat (first|refine zq6 ?_ _|refine zq8 ?_|refine zq5 ?_ _));exact BK125.out),GW125.out,GE125.out,NB112_125.out,NB125_112.out,NB113_125.out,NB125_113.out,(by repeat (first|(with_reducible first|exact HB.out|apply zq4|apply zq0|apply zq3|refine zq2 ?_ GE112.out|refine zq2 ?_ GE113.out|refine zq2 ?_ GE125.out)|exact HB.out))⟩)
       ·skip
        rintro ⟨v123,gb125⟩ w14 ⟨hS_,h0_,h1_,h2_,h3_,h4_,h5_,h6_,h7_,h8_,h9_,h10_⟩
        have n0_:Aside0 (Kd.R (Kd.int .i64) 3 w14 w.heap.size (fun _=>True) v123 y122):=⟨h0_⟩
        have n1_:Aside0 (w14.heap[gb112]?=some (.cells #[.string a1_0,.string a1_1,.slice A1_2 l1_2.length c1_2,.slice A1_3 l1_3.length c1_3] 33 (0,0))):=⟨h1_⟩
        have n2_:Aside0 (w14.heap[gb113]?=some (.cells #[.string bz0,.string bz0,.string bz0,.slice none 0 0,.slice none 0 0,.int .i64 0,.int .i64 0,.slice none 0 0] 67 (0,0))):=⟨h2_⟩
        have n3_:Aside0 (w14.heap[gb125]?=some (.cells #[.string bz0,.string bz0,.string bz0,.slice none 0 0,.slice none 0 0,.int .i64 0,.int .i64 0,.slice none 0 0] 67 (0,0))):=⟨h3_⟩
        have n4_:Aside0 (w.heap.size≤gb125):=⟨h4_⟩
        have n5_:Aside0 (w.heap.size≤gb125):=⟨h5_⟩
        have n6_:Aside0 (gb112≠gb125):=⟨h6_⟩
        have n7_:Aside0 (gb125≠gb112):=⟨h7_⟩
        have n8_:Aside0 (gb113≠gb125):=⟨h8_⟩
        have n9_:Aside0 (gb125≠gb113):=⟨h9_⟩
        have n10_:Aside0 (Below w.heap.size w w14):=⟨h10_⟩
        clear BK112
        clear BK113
        clear HB
        clear h0_ h1_ h2_ h3_ h4_ h5_ h6_ h7_ h8_ h9_ h10_
        have HO124:=n0_
        have BK112:=n1_
        have BK113:=n2_
        have BK125:=n3_
        have GW125:=n4_
        have GE125:=n5_
        have NB112_125:=n6_
        have NB125_112:=n7_
        have NB113_125:=n8_
        have NB125_113:=n9_
        have HB:=n10_
        clear n0_ n1_ n2_ n3_ n4_ n5_ n6_ n7_ n8_ n9_ n10_
        have hHeld:w14.cell? ⟨gb112,0,none⟩=some (.string a1_0)∧w14.cell? ⟨gb112,1,none⟩=some (.string a1_1)∧w14.cell? ⟨gb112,2,none⟩=some (.slice A1_2 l1_2.length c1_2)∧w14.cell? ⟨gb112,3,none⟩=some (.slice A1_3 l1_3.length c1_3):=hS_
        refine norm_ (a':=?_) ?_ ?_
        rotate_left
        ·simp only [putAll,Act.put,zL0,zL1,zL2]
         rfl
        refine one_ (i:=2) (N:=some 8) #[true,true,true,true,true,true,true,false,true,false] rfl rfl (one_of HT_.out (by kernel_rfl)) (by decide) (fun K hK=>?_)
        refine goes_ Tryd.func82 (by kernel_rfl) rfl #[.agg #[.string a1_0,.string a1_1,.slice A1_2 l1_2.length c1_2,.slice A1_3 l1_3.length c1_3]] (by rfl) rfl rfl (by (try simp only [zL3,zL4,zL5]);first|done|rfl|(simp only [zL6,zL7];rfl)) ?_
        with_reducible refine (impl_Mail_copied.calls a1_0 a1_1 _ _ l1_2 _ _ l1_3 t114 t115 t116 t119 _ ?side1 ?side2 ?side3 ?side4 A3.out).mono ?_
        (case side1=>repeat (first|exact (Kd.z1 HR1_2.out HB.out)|(with_reducible refine Kd.z0 ?_ _)|(with_reducible refine Kd.z3 ?_ _)|(with_reducible refine Kd.z2 ?_)))
        (case side2=>exact HC1_2.out)
        (case side3=>repeat (first|exact (Kd.z1 HR1_3.out HB.out)|(with_reducible refine Kd.z0 ?_ _)|(with_reducible refine Kd.z3 ?_ _)|(with_reducible refine Kd.z2 ?_)))
        (case side4=>exact HC1_3.out)
        rintro e w15 ⟨v117,v120,rfl,ho0,ho1,hb⟩
        refine ⟨_,rfl,?_⟩
        have n0_:=zA (Kd.z5 (by (with_reducible repeat (first|apply Kd.z4|apply Kd.z7|apply Kd.z6));exact HO124.out) hb)
        have n1_:=zA (Kd.z10 ho0 (zq14 (by repeat (first|(with_reducible first|exact HB.out|apply zq4|apply zq0|apply zq3|refine zq2 ?_ GE112.out|refine zq2 ?_ GE113.out|refine zq2 ?_ GE125.out)|exact HB.out))))
        have n2_:=zA (Kd.z10 ho1 (zq14 (by repeat (first|(with_reducible first|exact HB.out|apply zq4|apply zq0|apply zq3|refine zq2 ?_ GE112.out|refine zq2 ?_ GE113.out|refine zq2 ?_ GE125.out)|exact HB.out))))
        have n3_:=zA (zq13 (by (with_reducible repeat (first|refine zq6 ?_ _|refine zq8 ?_|refine zq5 ?_ _));exact BK112.out) hb)
        have n4_:=zA (zq13 (by (with_reducible repeat (first|refine zq6 ?_ _|refine zq8 ?_|refine zq5 ?_ _));exact BK113.out) hb)
        have n5_:=zA (zq13 (by (with_reducible repeat (first|refine zq6 ?_ _|refine zq8 ?_|refine zq5 ?_ _));exact BK125.out) hb)
        have n6_:=zA (zq11 (by repeat (first|(with_reducible first|exact HB.out|apply zq4|apply zq0|apply zq3|refine zq2 ?_ GE112.out|refine zq2 ?_ GE113.out|refine zq2 ?_ GE125.out)|exact HB.out)) hb)
        clear HO124
        clear BK112
        clear BK113
        clear BK125
        clear HB
        have HO124:=n0_
        have HO118:=n1_
        have HO121:=n2_
        have BK112:=n3_
        have BK113:=n4_
        have BK125:=n5_
        have HB:=n6_
        clear n0_ n1_ n2_ n3_ n4_ n5_ n6_
        (try clear hb)
        (try clear hk)
        (try clear ho0)
        (try clear ho1)
        obtain ⟨Ao16,co16,eo16⟩:=Kd.z13 HO124.out
        (first|subst eo16|(injection eo16 with f1_ f2_ f3_;have f4_:=f1_.symm;have f5_:=f3_.symm;clear f1_ f2_ f3_;subst f4_;subst f5_))
        obtain ⟨Ao17,co17,eo17⟩:=Kd.z13 HO121.out
        (first|subst eo17|(injection eo17 with f1_ f2_ f3_;have f4_:=f1_.symm;have f5_:=f3_.symm;clear f1_ f2_ f3_;subst f4_;subst f5_))
        obtain ⟨Ao18,co18,eo18⟩:=Kd.z13 HO118.out
        (first|subst eo18|(injection eo18 with f1_ f2_ f3_;have f4_:=f1_.symm;have f5_:=f3_.symm;clear f1_ f2_ f3_;subst f4_;subst f5_))
        refine hK.out _ _ ⟨zq1 BK112.out 0,zq1 BK112.out 1,zq1 BK112.out 2,zq1 BK112.out 3⟩ (fun hHeld=>?_)
        clear hK K
        refine norm_ (a':=?_) ?_ ?_
        rotate_left
        ·show Act.put _ (some 8) _=_
         simp only [Act.put,zL0,zL1,zL2,i64_w,i32_w]
         rfl
        refine pure_ (i:=7) (N:=some 13) (v:=?_) (a':=?_) #[true,true,true,true,true,true,true,true,true,false] rfl rfl (any_of HT_.out (by kernel_rfl)) (fun _ _ _ h=>h) (Or.inl ⟨by rfl,?_⟩) ?_ ?_
        rotate_left
        ·intro w'
         go_simp
         with_reducible rfl
        rotate_left
        ·simp only [Act.put,zL0,zL1,zL2,i64_w,i32_w]
         rfl
        exact norm_ (by first|(simp only [putAll,Act.put,zL0,zL1,zL2];done)|(simp only [putAll,Act.put,zL0,zL1,zL2];rfl)) (hJ2_6_8 (.slice Ao18 t116.length co18,.slice Ao17 t119.length co17,.slice Ao16 y122.length co16,gb125) _ ⟨hHeld,(by (with_reducible repeat (first|apply Kd.z4|apply Kd.z7|apply Kd.z6));exact HO118.out),(by (with_reducible repeat (first|apply Kd.z4|apply Kd.z7|apply Kd.z6));exact HO121.out),(by (with_reducible repeat (first|apply Kd.z4|apply Kd.z7|apply Kd.z6));exact HO124.out),(by (with_reducible repeat (first|refine zq6 ?_ _|refine zq8 ?_|refine zq5 ?_ _));exact BK112.out),(by (with_reducible repeat (first|refine zq6 ?_ _|refine zq8 ?_|refine zq5 ?_ _));exact BK113.out),(by (with_reducible repeat (first|refine zq6 ?_ _|refine zq8 ?_|refine zq5 ?_ _));exact BK125.out),GW125.out,GE125.out,NB112_125.out,NB125_112.out,NB113_125.out,NB125_113.out,(by repeat (first|(with_reducible first|exact HB.out|apply zq4|apply zq0|apply zq3|refine zq2 ?_ GE112.out|refine zq2 ?_ GE113.out|refine zq2 ?_ GE125.out)|exact HB.out))⟩)
      ·skip
       rintro ⟨v117,v120,gb125⟩ w13 ⟨hS_,h0_,h1_,h2_,h3_,h4_,h5_,h6_,h7_,h8_,h9_,h10_,h11_⟩
       have n0_:Aside0 (Kd.R k30 30 w13 w.heap.size (fun _=>True) v117 t116):=⟨h0_⟩
       have n1_:Aside0 (Kd.R Kd.string 9 w13 w.heap.size (fun _=>True) v120 t119):=⟨h1_⟩
       have n2_:Aside0 (w13.heap[gb112]?=some (.cells #[.string a1_0,.string a1_1,.slice A1_2 l1_2.length c1_2,.slice A1_3 l1_3.length c1_3] 33 (0,0))):=⟨h2_⟩
       have n3_:Aside0 (w13.heap[gb113]?=some (.cells #[.string bz0,.string bz0,.string bz0,.slice none 0 0,.slice none 0 0,.int .i64 0,.int .i64 0,.slice none 0 0] 67 (0,0))):=⟨h3_⟩
       have n4_:Aside0 (w13.heap[gb125]?=some (.cells #[.string bz0,.string bz0,.string bz0,.slice none 0 0,.slice none 0 0,.int .i64 0,.int .i64 0,.slice none 0 0] 67 (0,0))):=⟨h4_⟩
       have n5_:Aside0 (w.heap.size≤gb125):=⟨h5_⟩
       have n6_:Aside0 (w.heap.size≤gb125):=⟨h6_⟩
       have n7_:Aside0 (gb112≠gb125):=⟨h7_⟩
       have n8_:Aside0 (gb125≠gb112):=⟨h8_⟩
       have n9_:Aside0 (gb113≠gb125):=⟨h9_⟩
       have n10_:Aside0 (gb125≠gb113):=⟨h10_⟩
       have n11_:Aside0 (Below w.heap.size w w13):=⟨h11_⟩
       clear BK112
       clear BK113
       clear HB
       clear h0_ h1_ h2_ h3_ h4_ h5_ h6_ h7_ h8_ h9_ h10_ h11_
       have HO118:=n0_
       have HO121:=n1_
       have BK112:=n2_
       have BK113:=n3_
       have BK125:=n4_
       have GW125:=n5_
       have GE125:=n6_
       have NB112_125:=n7_
       have NB125_112:=n8_
       have NB113_125:=n9_
       have NB125_113:=n10_
       have HB:=n11_
       clear n0_ n1_ n2_ n3_ n4_ n5_ n6_ n7_ n8_ n9_ n10_ n11_
       have hHeld:w13.cell? ⟨gb112,0,none⟩=some (.string a1_0)∧w13.cell? ⟨gb112,1,none⟩=some (.string a1_1)∧w13.cell? ⟨gb112,2,none⟩=some (.slice A1_2 l1_2.length c1_2)∧w13.cell? ⟨gb112,3,none⟩=some (.slice A1_3 l1_3.length c1_3):=hS_
       refine norm_ (a':=?_) ?_ ?_
       rotate_left
       ·simp only [putAll,Act.put,zL0,zL1,zL2]
        rfl
       refine one_ (i:=6) (N:=some 12) #[true,true,true,true,true,true,true,false,true,false] rfl rfl (one_of HT_.out (by kernel_rfl)) (by decide) (fun K hK=>?_)
       refine Kd.R_make_step (Kd.int .i64) _ 3 (by rfl) (N:=12) rfl 61 _ _ rfl (l1_2.length:Int) rfl rfl Tryd.underlying61 (.int .i64 0) 8 info3 rfl (by decide) (by omega) 0 (ok:=fun _=>True) (okp:=fun _=>True) rfl (fun _ hk=>hk) trivial (of_decide_eq_true (by first|(with_reducible assumption)|assumption)) (Nat.le_trans (Nat.mul_le_mul_right _ (of_decide_eq_true (by first|(with_reducible assumption)|assumption):(l1_2.length:Int).toNat≤35184372088832)) (by omega)) (Below.refl _ _) (Nat.le_refl _) ?_
       intro v123 w14 ho15 hb hg_ hnew_
       clear hg_ hnew_
       (first|rw [← Ny122.out] at ho15|(simp only [Int.reduceToNat] at ho15;rw [← Ny122.out] at ho15))
       have n0_:=zA (Kd.z5 (by (with_reducible repeat (first|apply Kd.z4|apply Kd.z7|apply Kd.z6));exact HO118.out) hb)
       have n1_:=zA (Kd.z5 (by (with_reducible repeat (first|apply Kd.z4|apply Kd.z7|apply Kd.z6));exact HO121.out) hb)
       have n2_:=zA (Kd.z10 ho15 (zq14 (by repeat (first|(with_reducible first|exact HB.out|apply zq4|apply zq0|apply zq3|refine zq2 ?_ GE112.out|refine zq2 ?_ GE113.out|refine zq2 ?_ GE125.out)|exact HB.out))))
       have n3_:=zA (zq13 (by (with_reducible repeat (first|refine zq6 ?_ _|refine zq8 ?_|refine zq5 ?_ _));exact BK112.out) hb)
       have n4_:=zA (zq13 (by (with_reducible repeat (first|refine zq6 ?_ _|refine zq8 ?_|refine zq5 ?_ _));exact BK113.out) hb)
       have n5_:=zA (zq13 (by (with_reducible repeat (first|refine zq6 ?_ _|refine zq8 ?_|refine zq5 ?_ _));exact BK125.out) hb)
       have n6_:=zA (zq11 (by repeat (first|(with_reducible first|exact HB.out|apply zq4|apply zq0|apply zq3|refine zq2 ?_ GE112.out|refine zq2 ?_ GE113.out|refine zq2 ?_ GE125.out)|exact HB.out)) hb)
       clear HO118
       clear HO121
       clear BK112
       clear BK113
       clear BK125
       clear HB
       have HO118:=n0_
       have HO121:=n1_
       have HO124:=n2_
       have BK112:=n3_
       have BK113:=n4_
       have BK125:=n5_
       have HB:=n6_
       clear n0_ n1_ n2_ n3_ n4_ n5_ n6_
       clear hb ho15
       obtain ⟨Ao16,co16,eo16⟩:=Kd.z13 HO124.out
       (first|subst eo16|(injection eo16 with f1_ f2_ f3_;have f4_:=f1_.symm;have f5_:=f3_.symm;clear f1_ f2_ f3_;subst f4_;subst f5_))
       obtain ⟨Ao17,co17,eo17⟩:=Kd.z13 HO121.out
       (first|subst eo17|(injection eo17 with f1_ f2_ f3_;have f4_:=f1_.symm;have f5_:=f3_.symm;clear f1_ f2_ f3_;subst f4_;subst f5_))
       obtain ⟨Ao18,co18,eo18⟩:=Kd.z13 HO118.out
       (first|subst eo18|(injection eo18 with f1_ f2_ f3_;have f4_:=f1_.symm;have f5_:=f3_.symm;clear f1_ f2_ f3_;subst f4_;subst f5_))
       refine hK.out _ _ ⟨zq1 BK112.out 0,zq1 BK112.out 1,zq1 BK112.out 2,zq1 BK112.out 3⟩ (fun hHeld=>?_)
       clear hK K
       refine norm_ (a':=?_) ?_ ?_
       rotate_left
       ·show Act.put _ (some 12) _=_
        simp only [Act.put,zL0,zL1,zL2,i64_w,i32_w]
        rfl
       refine pure_ (i:=7) (N:=some 13) (v:=?_) (a':=?_) #[true,true,true,true,true,true,true,true,true,false] rfl rfl (any_of HT_.out (by kernel_rfl)) (fun _ _ _ h=>h) (Or.inl ⟨by rfl,?_⟩) ?_ ?_
       rotate_left
       ·intro w'
        go_simp
        with_reducible rfl
       rotate_left
       ·simp only [Act.put,zL0,zL1,zL2,i64_w,i32_w]
        rfl
       exact norm_ (by first|(simp only [putAll,Act.put,zL0,zL1,zL2];done)|(simp only [putAll,Act.put,zL0,zL1,zL2];rfl)) (hJ2_6_8 (.slice Ao18 t116.length co18,.slice Ao17 t119.length co17,.slice Ao16 y122.length co16,gb125) _ ⟨hHeld,(by (with_reducible repeat (first|apply Kd.z4|apply Kd.z7|apply Kd.z6));exact HO118.out),(by (with_reducible repeat (first|apply Kd.z4|apply Kd.z7|apply Kd.z6));exact HO121.out),(by (with_reducible repeat (first|apply Kd.z4|apply Kd.z7|apply Kd.z6));exact HO124.out),(by (with_reducible repeat (first|refine zq6 ?_ _|refine zq8 ?_|refine zq5 ?_ _));exact BK112.out),(by (with_reducible repeat (first|refine zq6 ?_ _|refine zq8 ?_|refine zq5 ?_ _));exact BK113.out),(by (with_reducible repeat (first|refine zq6 ?_ _|refine zq8 ?_|refine zq5 ?_ _));exact BK125.out),GW125.out,GE125.out,NB112_125.out,NB125_112.out,NB113_125.out,NB125_113.out,(by repeat (first|(with_reducible first|exact HB.out|apply zq4|apply zq0|apply zq3|refine zq2 ?_ GE112.out|refine zq2 ?_ GE113.out|refine zq2 ?_ GE125.out)|exact HB.out))⟩)
     ·skip
      rintro ⟨v117,v120,v123⟩ w17 ⟨hS_,h0_,h1_,h2_,h3_,h4_,h5_⟩
      have n0_:Aside0 (Kd.R k30 30 w17 w.heap.size (fun _=>True) v117 t116):=⟨h0_⟩
      have n1_:Aside0 (Kd.R Kd.string 9 w17 w.heap.size (fun _=>True) v120 t119):=⟨h1_⟩
      have n2_:Aside0 (Kd.R (Kd.int .i64) 3 w17 w.heap.size (fun _=>True) v123 y122):=⟨h2_⟩
      have n3_:Aside0 (w17.heap[gb112]?=some (.cells #[.string a1_0,.string a1_1,.slice A1_2 l1_2.length c1_2,.slice A1_3 l1_3.length c1_3] 33 (0,0))):=⟨h3_⟩
      have n4_:Aside0 (w17.heap[gb113]?=some (.cells #[.string bz0,.string bz0,.string bz0,.slice none 0 0,.slice none 0 0,.int .i64 0,.int .i64 0,.slice none 0 0] 67 (0,0))):=⟨h4_⟩
      have n5_:Aside0 (Below w.heap.size w w17):=⟨h5_⟩
      clear BK112
      clear BK113
      clear HB
      clear h0_ h1_ h2_ h3_ h4_ h5_
      have HO118:=n0_
      have HO121:=n1_
      have HO124:=n2_
      have BK112:=n3_
      have BK113:=n4_
      have HB:=n5_
      clear n0_ n1_ n2_ n3_ n4_ n5_
      have hHeld:w17.cell? ⟨gb112,0,none⟩=some (.string a1_0)∧w17.cell? ⟨gb112,1,none⟩=some (.string a1_1)∧w17.cell? ⟨gb112,2,none⟩=some (.slice A1_2 l1_2.length c1_2)∧w17.cell? ⟨gb112,3,none⟩=some (.slice A1_3 l1_3.length c1_3):=hS_
      obtain ⟨Ao18,co18,eo18⟩:=Kd.z13 HO124.out
      (first|subst eo18|(injection eo18 with f1_ f2_ f3_;have f4_:=f1_.symm;have f5_:=f3_.symm;clear f1_ f2_ f3_;subst f4_;subst f5_))
      obtain ⟨Ao19,co19,eo19⟩:=Kd.z13 HO121.out
      (first|subst eo19|(injection eo19 with f1_ f2_ f3_;have f4_:=f1_.symm;have f5_:=f3_.symm;clear f1_ f2_ f3_;subst f4_;subst f5_))
      obtain ⟨Ao20,co20,eo20⟩:=Kd.z13 HO118.out
      (first|subst eo20|(injection eo20 with f1_ f2_ f3_;have f4_:=f1_.symm;have f5_:=f3_.symm;clear f1_ f2_ f3_;subst f4_;subst f5_))
      refine norm_ (a':=?_) ?_ ?_
      rotate_left
      ·simp only [putAll,Act.put,zL0,zL1,zL2]
       rfl
      refine one_ (i:=8) (N:=some 5) #[true,true,true,true,true,true,true,true,true,false] rfl rfl (one_of HT_.out (by kernel_rfl)) (by decide) (fun K hK=>?_)
      refine box_step ?hg (N:=5) ?hd (cs:=#[.string bz0,.string bz0,.string bz0,.slice none 0 0,.slice none 0 0,.int .i64 0,.int .i64 0,.slice none 0 0]) (t:=67) ?hr ?_;(case hd=>rfl);(case hg=>rfl);(case hr=>first|(go_simp;done)|(go_simp;rfl))
      intro gb125 hg w21 hbox hb
      have n0_:=zA (Kd.z5 (by (with_reducible repeat (first|apply Kd.z4|apply Kd.z7|apply Kd.z6));exact HO118.out) hb)
      have n1_:=zA (Kd.z5 (by (with_reducible repeat (first|apply Kd.z4|apply Kd.z7|apply Kd.z6));exact HO121.out) hb)
      have n2_:=zA (Kd.z5 (by (with_reducible repeat (first|apply Kd.z4|apply Kd.z7|apply Kd.z6));exact HO124.out) hb)
      have n3_:=zA (zq13 (by (with_reducible repeat (first|refine zq6 ?_ _|refine zq8 ?_|refine zq5 ?_ _));exact BK112.out) hb)
      have n4_:=zA (zq13 (by (with_reducible repeat (first|refine zq6 ?_ _|refine zq8 ?_|refine zq5 ?_ _));exact BK113.out) hb)
      have n5_:=zA (zq11 (by repeat (first|(with_reducible first|exact HB.out|apply zq4|apply zq0|apply zq3|refine zq2 ?_ GE112.out|refine zq2 ?_ GE113.out)|exact HB.out)) hb)
      have n6_:=zA (hbox)
      have n7_:=zA ((by rw [hg];exact (zq14 (by repeat (first|(with_reducible first|exact HB.out|apply zq4|apply zq0|apply zq3|refine zq2 ?_ GE112.out|refine zq2 ?_ GE113.out)|exact HB.out))):w.heap.size≤gb125))
      have n8_:=zA ((by rw [hg];exact (zq14 (by repeat (first|(with_reducible first|exact HB.out|apply zq4|apply zq0|apply zq3|refine zq2 ?_ GE112.out|refine zq2 ?_ GE113.out)|exact HB.out))):w.heap.size≤gb125))
      have n9_:=zA ((by rw [hg];exact Nat.ne_of_lt (zq25 (by (with_reducible repeat (first|refine zq6 ?_ _|refine zq8 ?_|refine zq5 ?_ _));exact BK112.out)):gb112≠gb125))
      have n10_:=zA ((by rw [hg];exact Nat.ne_of_gt (zq25 (by (with_reducible repeat (first|refine zq6 ?_ _|refine zq8 ?_|refine zq5 ?_ _));exact BK112.out)):gb125≠gb112))
      have n11_:=zA ((by rw [hg];exact Nat.ne_of_lt (zq25 (by (with_reducible repeat (first|refine zq6 ?_ _|refine zq8 ?_|refine zq5 ?_ _));exact BK113.out)):gb113≠gb125))
      have n12_:=zA ((by rw [hg];exact Nat.ne_of_gt (zq25 (by (with_reducible repeat (first|refine zq6 ?_ _|refine zq8 ?_|refine zq5 ?_ _));exact BK113.out)):gb125≠gb113))
      clear HO118
      clear HO121
      clear HO124
      clear BK112
      clear BK113
      clear HB
      have HO118:=n0_
      have HO121:=n1_
      have HO124:=n2_
      have BK112:=n3_
      have BK113:=n4_
      have HB:=n5_
      have BK125:=n6_
      have GW125:=n7_
      have GE125:=n8_
      have NB112_125:=n9_
      have NB125_112:=n10_
      have NB113_125:=n11_
      have NB125_113:=n12_
      clear n0_ n1_ n2_ n3_ n4_ n5_ n6_ n7_ n8_ n9_ n10_ n11_ n12_
      clear hb hbox hg
      refine hK.out _ _ ⟨zq1 BK112.out 0,zq1 BK112.out 1,zq1 BK112.out 2,zq1 BK112.out 3⟩ (fun hHeld=>?_)
      clear hK K
      refine norm_ (a':=?_) ?_ ?_
      rotate_left
      ·show Act.put _ (some 5) _=_
       simp only [Act.put,zL0,zL1,zL2,i64_w,i32_w]
       rfl
      exact norm_ (by first|(simp only [putAll,Act.put,zL0,zL1,zL2];done)|(simp only [putAll,Act.put,zL0,zL1,zL2];rfl)) (hJ2_6_8 (.slice Ao20 t116.length co20,.slice Ao19 t119.length co19,.slice Ao18 y122.length co18,gb125) _ ⟨hHeld,(by (with_reducible repeat (first|apply Kd.z4|apply Kd.z7|apply Kd.z6));exact HO118.out),(by (with_reducible repeat (first|apply Kd.z4|apply Kd.z7|apply Kd.z6));exact HO121.out),(by (with_reducible repeat (first|apply Kd.z4|apply Kd.z7|apply Kd.z6));exact HO124.out),(by (with_reducible repeat (first|refine zq6 ?_ _|refine zq8 ?_|refine zq5 ?_ _));exact BK112.out),(by (with_reducible repeat (first|refine zq6 ?_ _|refine zq8 ?_|refine zq5 ?_ _));exact BK113.out),(by (with_reducible repeat (first|refine zq6 ?_ _|refine zq8 ?_|refine zq5 ?_ _));exact BK125.out),GW125.out,GE125.out,NB112_125.out,NB125_112.out,NB113_125.out,NB125_113.out,(by repeat (first|(with_reducible first|exact HB.out|apply zq4|apply zq0|apply zq3|refine zq2 ?_ GE112.out|refine zq2 ?_ GE113.out|refine zq2 ?_ GE125.out)|exact HB.out))⟩)
    rintro ⟨v117,v120,v123,gb125⟩ w18 ⟨hS_,h0_,h1_,h2_,h3_,h4_,h5_,h6_,h7_,h8_,h9_,h10_,h11_,h12_⟩
    have n0_:Aside0 (Kd.R k30 30 w18 w.heap.size (fun _=>True) v117 t116):=⟨h0_⟩
    have n1_:Aside0 (Kd.R Kd.string 9 w18 w.heap.size (fun _=>True) v120 t119):=⟨h1_⟩
    have n2_:Aside0 (Kd.R (Kd.int .i64) 3 w18 w.heap.size (fun _=>True) v123 y122):=⟨h2_⟩
    have n3_:Aside0 (w18.heap[gb112]?=some (.cells #[.string a1_0,.string a1_1,.slice A1_2 l1_2.length c1_2,.slice A1_3 l1_3.length c1_3] 33 (0,0))):=⟨h3_⟩
    have n4_:Aside0 (w18.heap[gb113]?=some (.cells #[.string bz0,.string bz0,.string bz0,.slice none 0 0,.slice none 0 0,.int .i64 0,.int .i64 0,.slice none 0 0] 67 (0,0))):=⟨h4_⟩
    have n5_:Aside0 (w18.heap[gb125]?=some (.cells #[.string bz0,.string bz0,.string bz0,.slice none 0 0,.slice none 0 0,.int .i64 0,.int .i64 0,.slice none 0 0] 67 (0,0))):=⟨h5_⟩
    have n6_:Aside0 (w.heap.size≤gb125):=⟨h6_⟩
    have n7_:Aside0 (w.heap.size≤gb125):=⟨h7_⟩
    have n8_:Aside0 (gb112≠gb125):=⟨h8_⟩
    have n9_:Aside0 (gb125≠gb112):=⟨h9_⟩
    have n10_:Aside0 (gb113≠gb125):=⟨h10_⟩
    have n11_:Aside0 (gb125≠gb113):=⟨h11_⟩
    have n12_:Aside0 (Below w.heap.size w w18):=⟨h12_⟩
    clear BK112
    clear BK113
    clear HB
    clear h0_ h1_ h2_ h3_ h4_ h5_ h6_ h7_ h8_ h9_ h10_ h11_ h12_
    have HO118:=n0_
    have HO121:=n1_
    have HO124:=n2_
    have BK112:=n3_
    have BK113:=n4_
    have BK125:=n5_
    have GW125:=n6_
    have GE125:=n7_
    have NB112_125:=n8_
    have NB125_112:=n9_
    have NB113_125:=n10_
    have NB125_113:=n11_
    have HB:=n12_
    clear n0_ n1_ n2_ n3_ n4_ n5_ n6_ n7_ n8_ n9_ n10_ n11_ n12_
    have hHeld:w18.cell? ⟨gb112,0,none⟩=some (.string a1_0)∧w18.cell? ⟨gb112,1,none⟩=some (.string a1_1)∧w18.cell? ⟨gb112,2,none⟩=some (.slice A1_2 l1_2.length c1_2)∧w18.cell? ⟨gb112,3,none⟩=some (.slice A1_3 l1_3.length c1_3):=hS_
    obtain ⟨Ao19,co19,eo19⟩:=Kd.z13 HO124.out
    (first|subst eo19|(injection eo19 with f1_ f2_ f3_;have f4_:=f1_.symm;have f5_:=f3_.symm;clear f1_ f2_ f3_;subst f4_;subst f5_))
    obtain ⟨Ao20,co20,eo20⟩:=Kd.z13 HO121.out
    (first|subst eo20|(injection eo20 with f1_ f2_ f3_;have f4_:=f1_.symm;have f5_:=f3_.symm;clear f1_ f2_ f3_;subst f4_;subst f5_))
    obtain ⟨Ao21,co21,eo21⟩:=Kd.z13 HO118.out
    (first|subst eo21|(injection eo21 with f1_ f2_ f3_;have f4_:=f1_.symm;have f5_:=f3_.symm;clear f1_ f2_ f3_;subst f4_;subst f5_))
    refine norm_ (a':=?_) ?_ ?_
    rotate_left
    ·simp only [putAll,Act.put,zL0,zL1,zL2]
     rfl
    refine one_ (i:=9) (N:=none) #[true,true,true,true,true,true,true,true,true,true] rfl rfl (one_of HT_.out (by kernel_rfl)) (by decide) (fun K hK=>?_)
    have hs22:w18.cell? ⟨gb125,0,none⟩=some (.string bz0):=zq1 BK125.out 0
    have hfs22:=zq7 BK125.out 0
    have hns22_0:=NB112_125.out
    have hns22_1:=NB113_125.out
    have hms22_0:=NB125_112.out
    have hms22_1:=NB125_113.out
    have hs23:w18.cell? ⟨gb125,1,none⟩=some (.string bz0):=zq1 BK125.out 1
    have hfs23:=zq7 BK125.out 1
    have hns23_0:=NB112_125.out
    have hns23_1:=NB113_125.out
    have hms23_0:=NB125_112.out
    have hms23_1:=NB125_113.out
    have hs24:w18.cell? ⟨gb125,2,none⟩=some (.string bz0):=zq1 BK125.out 2
    have hfs24:=zq7 BK125.out 2
    have hns24_0:=NB112_125.out
    have hns24_1:=NB113_125.out
    have hms24_0:=NB125_112.out
    have hms24_1:=NB125_113.out
    have hs25:w18.cell? ⟨gb125,3,none⟩=some (.slice none 0 0):=zq1 BK125.out 3
    have hfs25:=zq7 BK125.out 3
    have hns25_0:=NB112_125.out
    have hns25_1:=NB113_125.out
    have hms25_0:=NB125_112.out
    have hms25_1:=NB125_113.out
    have hs26:w18.cell? ⟨gb125,4,none⟩=some (.slice none 0 0):=zq1 BK125.out 4
    have hfs26:=zq7 BK125.out 4
    have hns26_0:=NB112_125.out
    have hns26_1:=NB113_125.out
    have hms26_0:=NB125_112.out
    have hms26_1:=NB125_113.out
    have hs27:w18.cell? ⟨gb125,5,none⟩=some (.int .i64 0):=zq1 BK125.out 5
    have hfs27:=zq7 BK125.out 5
    have hns27_0:=NB112_125.out
    have hns27_1:=NB113_125.out
    have hms27_0:=NB125_112.out
    have hms27_1:=NB125_113.out
    have hs28:w18.cell? ⟨gb125,6,none⟩=some (.int .i64 0):=zq1 BK125.out 6
    have hfs28:=zq7 BK125.out 6
    have hns28_0:=NB112_125.out
    have hns28_1:=NB113_125.out
    have hms28_0:=NB125_112.out
    have hms28_1:=NB125_113.out
    have hs29:w18.cell? ⟨gb125,7,none⟩=some (.slice none 0 0):=zq1 BK125.out 7
    have hfs29:=zq7 BK125.out 7
    have hns29_0:=NB112_125.out
    have hns29_1:=NB113_125.out
    have hms29_0:=NB125_112.out
    have hms29_1:=NB125_113.out
    refine skip_ (w1:=?_) (by rfl) rfl ?_ ?_
    rotate_left
    ·go_simp
     rfl
    refine hK.out _ _ ⟨((zq20 (p:=⟨gb125,_,none⟩) NB112_125.out _).trans (((zq20 (p:=⟨gb125,_,none⟩) NB112_125.out _).trans (((zq20 (p:=⟨gb125,_,none⟩) NB112_125.out _).trans (((zq20 (p:=⟨gb125,_,none⟩) NB112_125.out _).trans (((zq20 (p:=⟨gb125,_,none⟩) NB112_125.out _).trans (((zq20 (p:=⟨gb125,_,none⟩) NB112_125.out _).trans (((zq20 (p:=⟨gb125,_,none⟩) NB112_125.out _).trans (((zq20 (p:=⟨gb125,_,none⟩) NB112_125.out _).trans (hHeld.1)))))))))))))))),((zq20 (p:=⟨gb125,_,none⟩) NB112_125.out _).trans (((zq20 (p:=⟨gb125,_,none⟩) NB112_125.out _).trans (((zq20 (p:=⟨gb125,_,none⟩) NB112_125.out _).trans (((zq20 (p:=⟨gb125,_,none⟩) NB112_125.out _).trans (((zq20 (p:=⟨gb125,_,none⟩) NB112_125.out _).trans (((zq20 (p:=⟨gb125,_,none⟩) NB112_125.out _).trans (((zq20 (p:=⟨gb125,_,none⟩) NB112_125.out _).trans (((zq20 (p:=⟨gb125,_,none⟩) NB112_125.out _).trans (hHeld.2.1)))))))))))))))),((zq20 (p:=⟨gb125,_,none⟩) NB112_125.out _).trans (((zq20 (p:=⟨gb125,_,none⟩) NB112_125.out _).trans (((zq20 (p:=⟨gb125,_,none⟩) NB112_125.out _).trans (((zq20 (p:=⟨gb125,_,none⟩) NB112_125.out _).trans (((zq20 (p:=⟨gb125,_,none⟩) NB112_125.out _).trans (((zq20 (p:=⟨gb125,_,none⟩) NB112_125.out _).trans (((zq20 (p:=⟨gb125,_,none⟩) NB112_125.out _).trans (((zq20 (p:=⟨gb125,_,none⟩) NB112_125.out _).trans (hHeld.2.2.1)))))))))))))))),((zq20 (p:=⟨gb125,_,none⟩) NB112_125.out _).trans (((zq20 (p:=⟨gb125,_,none⟩) NB112_125.out _).trans (((zq20 (p:=⟨gb125,_,none⟩) NB112_125.out _).trans (((zq20 (p:=⟨gb125,_,none⟩) NB112_125.out _).trans (((zq20 (p:=⟨gb125,_,none⟩) NB112_125.out _).trans (((zq20 (p:=⟨gb125,_,none⟩) NB112_125.out _).trans (((zq20 (p:=⟨gb125,_,none⟩) NB112_125.out _).trans (((zq20 (p:=⟨gb125,_,none⟩) NB112_125.out _).trans (hHeld.2.2.2))))))))))))))))⟩ (fun hHeld=>?_)
    clear hK K
    refine done_ (done_of HT_.out (by kernel_rfl)) ?_
    have hnb30:=NB125_112.out
    have hnc30:=NB112_125.out
    have hnb31:=NB125_113.out
    have hnc31:=NB113_125.out
    have hcz32_0:w18.cell? ⟨gb125,0,none⟩=some (.string bz0):=zq1 BK125.out 0
    have hcz32_1:w18.cell? ⟨gb125,1,none⟩=some (.string bz0):=zq1 BK125.out 1
    have hcz32_2:w18.cell? ⟨gb125,2,none⟩=some (.string bz0):=zq1 BK125.out 2
    have hcz32_3:w18.cell? ⟨gb125,3,none⟩=some (.slice none 0 0):=zq1 BK125.out 3
    have hcz32_4:w18.cell? ⟨gb125,4,none⟩=some (.slice none 0 0):=zq1 BK125.out 4
    have hcz32_5:w18.cell? ⟨gb125,5,none⟩=some (.int .i64 0):=zq1 BK125.out 5
    have hcz32_6:w18.cell? ⟨gb125,6,none⟩=some (.int .i64 0):=zq1 BK125.out 6
    have hcz32_7:w18.cell? ⟨gb125,7,none⟩=some (.slice none 0 0):=zq1 BK125.out 7
    have hfz32_0:=zq7 BK125.out 0
    have hfz32_1:=zq7 BK125.out 1
    have hfz32_2:=zq7 BK125.out 2
    have hfz32_3:=zq7 BK125.out 3
    have hfz32_4:=zq7 BK125.out 4
    have hfz32_5:=zq7 BK125.out 5
    have hfz32_6:=zq7 BK125.out 6
    have hfz32_7:=zq7 BK125.out 7
    try go_wp2_with (first|((with_reducible refine zq19 (f:=32) rfl ?_);refine goesL_ (some 15) rfl rfl Tryd.func32 (by kernel_rfl) rfl #[.agg #[.string a0,.string t114,.string t115,.slice Ao21 t116.length co21,.slice Ao20 t119.length co20,.int .i64 0,.int .i64 0,.slice Ao19 y122.length co19]] rfl (by (try simp only [zL3,zL4,zL5]);first|done|rfl|(simp only [zL6,zL7];rfl)) ?_;(with_reducible refine (impl_CliOk.calls k a0 t114 t115 _ _ t116 _ _ t119 0 0 _ _ y122 true _ ?side1 ?side2 ?side3 ?side4 ?side5 ?side6 ?side7 A6.out).mono ?_);(case side1=>refine (Kd.z12 (e:=30) (base:=w.heap.size) (ok:=fun k_=>True) (n:=t116.length) (c:=co21) ?_).2.2;exact (by (with_reducible repeat (first|apply Kd.z4|apply Kd.z7|apply Kd.z6));exact (Kd.z11 (Kd.z8 (p:=⟨gb125,7,none⟩) (Kd.z8 (p:=⟨gb125,6,none⟩) (Kd.z8 (p:=⟨gb125,5,none⟩) (Kd.z8 (p:=⟨gb125,4,none⟩) (Kd.z8 (p:=⟨gb125,3,none⟩) (Kd.z8 (p:=⟨gb125,2,none⟩) (Kd.z8 (p:=⟨gb125,1,none⟩) (Kd.z8 (p:=⟨gb125,0,none⟩) (Kd.z14 HO118.out BK125.out (by decide)) (fun _ hk=>hk.2) (.string a0)) (fun _ hk=>hk.2) (.string t114)) (fun _ hk=>hk.2) (.string t115)) (fun _ hk=>hk.2) (.slice Ao21 t116.length co21)) (fun _ hk=>hk.2) (.slice Ao20 t119.length co20)) (fun _ hk=>hk.2) (.int .i64 0)) (fun _ hk=>hk.2) (.int .i64 0)) (fun _ hk=>hk.2) (.slice Ao19 y122.length co19)) (fun _ h_=>h_.1))));(case side2=>exact (Kd.z12 HO118.out).2.1);(case side3=>refine (Kd.z12 (e:=9) (base:=w.heap.size) (ok:=fun k_=>True) (n:=t119.length) (c:=co20) ?_).2.2;exact (by (with_reducible repeat (first|apply Kd.z4|apply Kd.z7|apply Kd.z6));exact (Kd.z11 (Kd.z8 (p:=⟨gb125,7,none⟩) (Kd.z8 (p:=⟨gb125,6,none⟩) (Kd.z8 (p:=⟨gb125,5,none⟩) (Kd.z8 (p:=⟨gb125,4,none⟩) (Kd.z8 (p:=⟨gb125,3,none⟩) (Kd.z8 (p:=⟨gb125,2,none⟩) (Kd.z8 (p:=⟨gb125,1,none⟩) (Kd.z8 (p:=⟨gb125,0,none⟩) (Kd.z14 HO121.out BK125.out (by decide)) (fun _ hk=>hk.2) (.string a0)) (fun _ hk=>hk.2) (.string t114)) (fun _ hk=>hk.2) (.string t115)) (fun _ hk=>hk.2) (.slice Ao21 t116.length co21)) (fun _ hk=>hk.2) (.slice Ao20 t119.length co20)) (fun _ hk=>hk.2) (.int .i64 0)) (fun _ hk=>hk.2) (.int .i64 0)) (fun _ hk=>hk.2) (.slice Ao19 y122.length co19)) (fun _ h_=>h_.1))));(case side4=>exact (Kd.z12 HO121.out).2.1);(case side5=>refine (Kd.z12 (e:=3) (base:=w.heap.size) (ok:=fun k_=>True) (n:=y122.length) (c:=co19) ?_).2.2;exact (by (with_reducible repeat (first|apply Kd.z4|apply Kd.z7|apply Kd.z6));exact (Kd.z11 (Kd.z8 (p:=⟨gb125,7,none⟩) (Kd.z8 (p:=⟨gb125,6,none⟩) (Kd.z8 (p:=⟨gb125,5,none⟩) (Kd.z8 (p:=⟨gb125,4,none⟩) (Kd.z8 (p:=⟨gb125,3,none⟩) (Kd.z8 (p:=⟨gb125,2,none⟩) (Kd.z8 (p:=⟨gb125,1,none⟩) (Kd.z8 (p:=⟨gb125,0,none⟩) (Kd.z14 HO124.out BK125.out (by decide)) (fun _ hk=>hk.2) (.string a0)) (fun _ hk=>hk.2) (.string t114)) (fun _ hk=>hk.2) (.string t115)) (fun _ hk=>hk.2) (.slice Ao21 t116.length co21)) (fun _ hk=>hk.2) (.slice Ao20 t119.length co20)) (fun _ hk=>hk.2) (.int .i64 0)) (fun _ hk=>hk.2) (.int .i64 0)) (fun _ hk=>hk.2) (.slice Ao19 y122.length co19)) (fun _ h_=>h_.1))));(case side6=>exact (Kd.z12 HO124.out).2.1);(case side7=>first|(with_reducible exact HG.out)|((with_reducible repeat (first|exact HG.out|apply GOK.drewN|apply GOK.drew));done)|exact GOK.below HG.out (by repeat (first|(with_reducible first|exact HB.out|apply zq4|apply zq0|apply zq3|refine zq2 ?_ GE112.out|refine zq2 ?_ GE113.out|refine zq2 ?_ GE125.out)|exact HB.out)));rintro e w33 ⟨rfl,hb⟩;refine ⟨_,rfl,?_⟩;have n0_:=zA (Kd.z5 (by (with_reducible repeat (first|apply Kd.z4|apply Kd.z7|apply Kd.z6));exact (Kd.z11 (Kd.z8 (p:=⟨gb125,7,none⟩) (Kd.z8 (p:=⟨gb125,6,none⟩) (Kd.z8 (p:=⟨gb125,5,none⟩) (Kd.z8 (p:=⟨gb125,4,none⟩) (Kd.z8 (p:=⟨gb125,3,none⟩) (Kd.z8 (p:=⟨gb125,2,none⟩) (Kd.z8 (p:=⟨gb125,1,none⟩) (Kd.z8 (p:=⟨gb125,0,none⟩) (Kd.z14 HO118.out BK125.out (by decide)) (fun _ hk=>hk.2) (.string a0)) (fun _ hk=>hk.2) (.string t114)) (fun _ hk=>hk.2) (.string t115)) (fun _ hk=>hk.2) (.slice Ao21 t116.length co21)) (fun _ hk=>hk.2) (.slice Ao20 t119.length co20)) (fun _ hk=>hk.2) (.int .i64 0)) (fun _ hk=>hk.2) (.int .i64 0)) (fun _ hk=>hk.2) (.slice Ao19 y122.length co19)) (fun _ h_=>h_.1))) hb);have n1_:=zA (Kd.z5 (by (with_reducible repeat (first|apply Kd.z4|apply Kd.z7|apply Kd.z6));exact (Kd.z11 (Kd.z8 (p:=⟨gb125,7,none⟩) (Kd.z8 (p:=⟨gb125,6,none⟩) (Kd.z8 (p:=⟨gb125,5,none⟩) (Kd.z8 (p:=⟨gb125,4,none⟩) (Kd.z8 (p:=⟨gb125,3,none⟩) (Kd.z8 (p:=⟨gb125,2,none⟩) (Kd.z8 (p:=⟨gb125,1,none⟩) (Kd.z8 (p:=⟨gb125,0,none⟩) (Kd.z14 HO121.out BK125.out (by decide)) (fun _ hk=>hk.2) (.string a0)) (fun _ hk=>hk.2) (.string t114)) (fun _ hk=>hk.2) (.string t115)) (fun _ hk=>hk.2) (.slice Ao21 t116.length co21)) (fun _ hk=>hk.2) (.slice Ao20 t119.length co20)) (fun _ hk=>hk.2) (.int .i64 0)) (fun _ hk=>hk.2) (.int .i64 0)) (fun _ hk=>hk.2) (.slice Ao19 y122.length co19)) (fun _ h_=>h_.1))) hb);have n2_:=zA (Kd.z5 (by (with_reducible repeat (first|apply Kd.z4|apply Kd.z7|apply Kd.z6));exact (Kd.z11 (Kd.z8 (p:=⟨gb125,7,none⟩) (Kd.z8 (p:=⟨gb125,6,none⟩) (Kd.z8 (p:=⟨gb125,5,none⟩) (Kd.z8 (p:=⟨gb125,4,none⟩) (Kd.z8 (p:=⟨gb125,3,none⟩) (Kd.z8 (p:=⟨gb125,2,none⟩) (Kd.z8 (p:=⟨gb125,1,none⟩) (Kd.z8 (p:=⟨gb125,0,none⟩) (Kd.z14 HO124.out BK125.out (by decide)) (fun _ hk=>hk.2) (.string a0)) (fun _ hk=>hk.2) (.string t114)) (fun _ hk=>hk.2) (.string t115)) (fun _ hk=>hk.2) (.slice Ao21 t116.length co21)) (fun _ hk=>hk.2) (.slice Ao20 t119.length co20)) (fun _ hk=>hk.2) (.int .i64 0)) (fun _ hk=>hk.2) (.int .i64 0)) (fun _ hk=>hk.2) (.slice Ao19 y122.length co19)) (fun _ h_=>h_.1))) hb);have n3_:=zA (zq13 (g:=gb112) (o:=.cells #[.string a1_0,.string a1_1,.slice A1_2 l1_2.length c1_2,.slice A1_3 l1_3.length c1_3] 33 (0,0)) (by (with_reducible repeat (first|refine zq6 ?_ _|refine zq8 ?_|refine zq5 ?_ _));refine zq24 ?_ NB112_125.out _;(with_reducible repeat (first|refine zq6 ?_ _|refine zq8 ?_|refine zq5 ?_ _));refine zq24 ?_ NB112_125.out _;(with_reducible repeat (first|refine zq6 ?_ _|refine zq8 ?_|refine zq5 ?_ _));refine zq24 ?_ NB112_125.out _;(with_reducible repeat (first|refine zq6 ?_ _|refine zq8 ?_|refine zq5 ?_ _));refine zq24 ?_ NB112_125.out _;(with_reducible repeat (first|refine zq6 ?_ _|refine zq8 ?_|refine zq5 ?_ _));refine zq24 ?_ NB112_125.out _;(with_reducible repeat (first|refine zq6 ?_ _|refine zq8 ?_|refine zq5 ?_ _));refine zq24 ?_ NB112_125.out _;(with_reducible repeat (first|refine zq6 ?_ _|refine zq8 ?_|refine zq5 ?_ _));refine zq24 ?_ NB112_125.out _;(with_reducible repeat (first|refine zq6 ?_ _|refine zq8 ?_|refine zq5 ?_ _));refine zq24 ?_ NB112_125.out _;(with_reducible repeat (first|refine zq6 ?_ _|refine zq8 ?_|refine zq5 ?_ _));exact BK112.out) hb);have n4_:=zA (zq13 (g:=gb113) (o:=.cells #[.string bz0,.string bz0,.string bz0,.slice none 0 0,.slice none 0 0,.int .i64 0,.int .i64 0,.slice none 0 0] 67 (0,0)) (by (with_reducible repeat (first|refine zq6 ?_ _|refine zq8 ?_|refine zq5 ?_ _));refine zq24 ?_ NB113_125.out _;(with_reducible repeat (first|refine zq6 ?_ _|refine zq8 ?_|refine zq5 ?_ _));refine zq24 ?_ NB113_125.out _;(with_reducible repeat (first|refine zq6 ?_ _|refine zq8 ?_|refine zq5 ?_ _));refine zq24 ?_ NB113_125.out _;(with_reducible repeat (first|refine zq6 ?_ _|refine zq8 ?_|refine zq5 ?_ _));refine zq24 ?_ NB113_125.out _;(with_reducible repeat (first|refine zq6 ?_ _|refine zq8 ?_|refine zq5 ?_ _));refine zq24 ?_ NB113_125.out _;(with_reducible repeat (first|refine zq6 ?_ _|refine zq8 ?_|refine zq5 ?_ _));refine zq24 ?_ NB113_125.out _;(with_reducible repeat (first|refine zq6 ?_ _|refine zq8 ?_|refine zq5 ?_ _));refine zq24 ?_ NB113_125.out _;(with_reducible repeat (first|refine zq6 ?_ _|refine zq8 ?_|refine zq5 ?_ _));refine zq24 ?_ NB113_125.out _;(with_reducible repeat (first|refine zq6 ?_ _|refine zq8 ?_|refine zq5 ?_ _));exact BK113.out) hb);have n5_:=zA (zq13 (g:=gb125) (o:=.cells #[.string a0,.string t114,.string t115,.slice Ao21 t116.length co21,.slice Ao20 t119.length co20,.int .i64 0,.int .i64 0,.slice Ao19 y122.length co19] 67 (0,0)) (by (with_reducible repeat (first|refine zq6 ?_ _|refine zq8 ?_|refine zq5 ?_ _));refine zq18 (cs:=#[.string a0,.string t114,.string t115,.slice Ao21 t116.length co21,.slice Ao20 t119.length co20,.int .i64 0,.int .i64 0,.slice none 0 0]) ?_ 7 _ rfl;(with_reducible repeat (first|refine zq6 ?_ _|refine zq8 ?_|refine zq5 ?_ _));refine zq18 (cs:=#[.string a0,.string t114,.string t115,.slice Ao21 t116.length co21,.slice Ao20 t119.length co20,.int .i64 0,.int .i64 0,.slice none 0 0]) ?_ 6 _ rfl;(with_reducible repeat (first|refine zq6 ?_ _|refine zq8 ?_|refine zq5 ?_ _));refine zq18 (cs:=#[.string a0,.string t114,.string t115,.slice Ao21 t116.length co21,.slice Ao20 t119.length co20,.int .i64 0,.int .i64 0,.slice none 0 0]) ?_ 5 _ rfl;(with_reducible repeat (first|refine zq6 ?_ _|refine zq8 ?_|refine zq5 ?_ _));refine zq18 (cs:=#[.string a0,.string t114,.string t115,.slice Ao21 t116.length co21,.slice none 0 0,.int .i64 0,.int .i64 0,.slice none 0 0]) ?_ 4 _ rfl;(with_reducible repeat (first|refine zq6 ?_ _|refine zq8 ?_|refine zq5 ?_ _));refine zq18 (cs:=#[.string a0,.string t114,.string t115,.slice none 0 0,.slice none 0 0,.int .i64 0,.int .i64 0,.slice none 0 0]) ?_ 3 _ rfl;(with_reducible repeat (first|refine zq6 ?_ _|refine zq8 ?_|refine zq5 ?_ _));refine zq18 (cs:=#[.string a0,.string t114,.string bz0,.slice none 0 0,.slice none 0 0,.int .i64 0,.int .i64 0,.slice none 0 0]) ?_ 2 _ rfl;(with_reducible repeat (first|refine zq6 ?_ _|refine zq8 ?_|refine zq5 ?_ _));refine zq18 (cs:=#[.string a0,.string bz0,.string bz0,.slice none 0 0,.slice none 0 0,.int .i64 0,.int .i64 0,.slice none 0 0]) ?_ 1 _ rfl;(with_reducible repeat (first|refine zq6 ?_ _|refine zq8 ?_|refine zq5 ?_ _));refine zq18 (cs:=#[.string bz0,.string bz0,.string bz0,.slice none 0 0,.slice none 0 0,.int .i64 0,.int .i64 0,.slice none 0 0]) ?_ 0 _ rfl;(with_reducible repeat (first|refine zq6 ?_ _|refine zq8 ?_|refine zq5 ?_ _));exact BK125.out) hb);have n6_:=zA (zq11 (by repeat (first|(with_reducible first|exact HB.out|apply zq4|apply zq0|apply zq3|refine zq2 ?_ GE112.out|refine zq2 ?_ GE113.out|refine zq2 ?_ GE125.out)|exact HB.out)) hb);clear HO118;clear HO121;clear HO124;clear BK112;clear BK113;clear BK125;clear HB;have HO118:=n0_;have HO121:=n1_;have HO124:=n2_;have BK112:=n3_;have BK113:=n4_;have BK125:=n5_;have HB:=n6_;clear n0_ n1_ n2_ n3_ n4_ n5_ n6_;(try clear hb);(try clear hk);have hcz34_0:w33.cell? ⟨gb125,0,none⟩=some (.string a0):=zq1 BK125.out 0;have hcz34_1:w33.cell? ⟨gb125,1,none⟩=some (.string t114):=zq1 BK125.out 1;have hcz34_2:w33.cell? ⟨gb125,2,none⟩=some (.string t115):=zq1 BK125.out 2;have hcz34_3:w33.cell? ⟨gb125,3,none⟩=some (.slice Ao21 t116.length co21):=zq1 BK125.out 3;have hcz34_4:w33.cell? ⟨gb125,4,none⟩=some (.slice Ao20 t119.length co20):=zq1 BK125.out 4;have hcz34_5:w33.cell? ⟨gb125,5,none⟩=some (.int .i64 0):=zq1 BK125.out 5;have hcz34_6:w33.cell? ⟨gb125,6,none⟩=some (.int .i64 0):=zq1 BK125.out 6;have hcz34_7:w33.cell? ⟨gb125,7,none⟩=some (.slice Ao19 y122.length co19):=zq1 BK125.out 7;have hfz34_0:=zq7 BK125.out 0;have hfz34_1:=zq7 BK125.out 1;have hfz34_2:=zq7 BK125.out 2;have hfz34_3:=zq7 BK125.out 3;have hfz34_4:=zq7 BK125.out 4;have hfz34_5:=zq7 BK125.out 5;have hfz34_6:=zq7 BK125.out 6;have hfz34_7:=zq7 BK125.out 7;have hnb35:=NB113_112.out;have hnc35:=NB112_113.out;have hcz36_0:w33.cell? ⟨gb113,0,none⟩=some (.string bz0):=zq1 BK113.out 0;have hcz36_1:w33.cell? ⟨gb113,1,none⟩=some (.string bz0):=zq1 BK113.out 1;have hcz36_2:w33.cell? ⟨gb113,2,none⟩=some (.string bz0):=zq1 BK113.out 2;have hcz36_3:w33.cell? ⟨gb113,3,none⟩=some (.slice none 0 0):=zq1 BK113.out 3;have hcz36_4:w33.cell? ⟨gb113,4,none⟩=some (.slice none 0 0):=zq1 BK113.out 4;have hcz36_5:w33.cell? ⟨gb113,5,none⟩=some (.int .i64 0):=zq1 BK113.out 5;have hcz36_6:w33.cell? ⟨gb113,6,none⟩=some (.int .i64 0):=zq1 BK113.out 6;have hcz36_7:w33.cell? ⟨gb113,7,none⟩=some (.slice none 0 0):=zq1 BK113.out 7;have hfz36_0:=zq7 BK113.out 0;have hfz36_1:=zq7 BK113.out 1;have hfz36_2:=zq7 BK113.out 2;have hfz36_3:=zq7 BK113.out 3;have hfz36_4:=zq7 BK113.out 4;have hfz36_5:=zq7 BK113.out 5;have hfz36_6:=zq7 BK113.out 6;have hfz36_7:=zq7 BK113.out 7))
    refine bodyPost_ret (results_cell_row rfl _ _ gb113 67 #[.string a0,.string t114,.string t115,.slice Ao21 t116.length co21,.slice Ao20 t119.length co20,.int .i64 0,.int .i64 0,.slice Ao19 y122.length co19] (0,0) _ rfl (by (with_reducible repeat (first|refine zq6 ?_ _|refine zq8 ?_|refine zq5 ?_ _));refine zq18 (cs:=#[.string a0,.string t114,.string t115,.slice Ao21 t116.length co21,.slice Ao20 t119.length co20,.int .i64 0,.int .i64 0,.slice none 0 0]) ?_ 7 _ rfl;(with_reducible repeat (first|refine zq6 ?_ _|refine zq8 ?_|refine zq5 ?_ _));refine zq18 (cs:=#[.string a0,.string t114,.string t115,.slice Ao21 t116.length co21,.slice Ao20 t119.length co20,.int .i64 0,.int .i64 0,.slice none 0 0]) ?_ 6 _ rfl;(with_reducible repeat (first|refine zq6 ?_ _|refine zq8 ?_|refine zq5 ?_ _));refine zq18 (cs:=#[.string a0,.string t114,.string t115,.slice Ao21 t116.length co21,.slice Ao20 t119.length co20,.int .i64 0,.int .i64 0,.slice none 0 0]) ?_ 5 _ rfl;(with_reducible repeat (first|refine zq6 ?_ _|refine zq8 ?_|refine zq5 ?_ _));refine zq18 (cs:=#[.string a0,.string t114,.string t115,.slice Ao21 t116.length co21,.slice none 0 0,.int .i64 0,.int .i64 0,.slice none 0 0]) ?_ 4 _ rfl;(with_reducible repeat (first|refine zq6 ?_ _|refine zq8 ?_|refine zq5 ?_ _));refine zq18 (cs:=#[.string a0,.string t114,.string t115,.slice none 0 0,.slice none 0 0,.int .i64 0,.int .i64 0,.slice none 0 0]) ?_ 3 _ rfl;(with_reducible repeat (first|refine zq6 ?_ _|refine zq8 ?_|refine zq5 ?_ _));refine zq18 (cs:=#[.string a0,.string t114,.string bz0,.slice none 0 0,.slice none 0 0,.int .i64 0,.int .i64 0,.slice none 0 0]) ?_ 2 _ rfl;(with_reducible repeat (first|refine zq6 ?_ _|refine zq8 ?_|refine zq5 ?_ _));refine zq18 (cs:=#[.string a0,.string bz0,.string bz0,.slice none 0 0,.slice none 0 0,.int .i64 0,.int .i64 0,.slice none 0 0]) ?_ 1 _ rfl;(with_reducible repeat (first|refine zq6 ?_ _|refine zq8 ?_|refine zq5 ?_ _));refine zq18 (cs:=#[.string bz0,.string bz0,.string bz0,.slice none 0 0,.slice none 0 0,.int .i64 0,.int .i64 0,.slice none 0 0]) ?_ 0 _ rfl;(with_reducible repeat (first|refine zq6 ?_ _|refine zq8 ?_|refine zq5 ?_ _));exact BK113.out) Tryd.underlying67 rfl (by kernel_rfl)) rfl ?_
    exact ⟨_,_,_,by first|rfl|(simp [zq16,zq17]<;>rfl)|(simp [*,zq16,zq17]<;>rfl),by (with_reducible repeat (first|apply Kd.z4|apply Kd.z7|apply Kd.z6));exact Kd.z11 (Kd.z8 (p:=⟨gb113,7,none⟩) (Kd.z8 (p:=⟨gb113,6,none⟩) (Kd.z8 (p:=⟨gb113,5,none⟩) (Kd.z8 (p:=⟨gb113,4,none⟩) (Kd.z8 (p:=⟨gb113,3,none⟩) (Kd.z8 (p:=⟨gb113,2,none⟩) (Kd.z8 (p:=⟨gb113,1,none⟩) (Kd.z8 (p:=⟨gb113,0,none⟩) (Kd.z14 HO118.out BK113.out (by decide)) (fun _ hk=>hk.2) (.string a0)) (fun _ hk=>hk.2) (.string t114)) (fun _ hk=>hk.2) (.string t115)) (fun _ hk=>hk.2) (.slice Ao21 t116.length co21)) (fun _ hk=>hk.2) (.slice Ao20 t119.length co20)) (fun _ hk=>hk.2) (.int .i64 0)) (fun _ hk=>hk.2) (.int .i64 0)) (fun _ hk=>hk.2) (.slice Ao19 y122.length co19)) (fun _ hk=>trivial),by (with_reducible repeat (first|apply Kd.z4|apply Kd.z7|apply Kd.z6));exact Kd.z11 (Kd.z8 (p:=⟨gb113,7,none⟩) (Kd.z8 (p:=⟨gb113,6,none⟩) (Kd.z8 (p:=⟨gb113,5,none⟩) (Kd.z8 (p:=⟨gb113,4,none⟩) (Kd.z8 (p:=⟨gb113,3,none⟩) (Kd.z8 (p:=⟨gb113,2,none⟩) (Kd.z8 (p:=⟨gb113,1,none⟩) (Kd.z8 (p:=⟨gb113,0,none⟩) (Kd.z14 HO121.out BK113.out (by decide)) (fun _ hk=>hk.2) (.string a0)) (fun _ hk=>hk.2) (.string t114)) (fun _ hk=>hk.2) (.string t115)) (fun _ hk=>hk.2) (.slice Ao21 t116.length co21)) (fun _ hk=>hk.2) (.slice Ao20 t119.length co20)) (fun _ hk=>hk.2) (.int .i64 0)) (fun _ hk=>hk.2) (.int .i64 0)) (fun _ hk=>hk.2) (.slice Ao19 y122.length co19)) (fun _ hk=>trivial),by (with_reducible repeat (first|apply Kd.z4|apply Kd.z7|apply Kd.z6));exact Kd.z11 (Kd.z8 (p:=⟨gb113,7,none⟩) (Kd.z8 (p:=⟨gb113,6,none⟩) (Kd.z8 (p:=⟨gb113,5,none⟩) (Kd.z8 (p:=⟨gb113,4,none⟩) (Kd.z8 (p:=⟨gb113,3,none⟩) (Kd.z8 (p:=⟨gb113,2,none⟩) (Kd.z8 (p:=⟨gb113,1,none⟩) (Kd.z8 (p:=⟨gb113,0,none⟩) (Kd.z14 HO124.out BK113.out (by decide)) (fun _ hk=>hk.2) (.string a0)) (fun _ hk=>hk.2) (.string t114)) (fun _ hk=>hk.2) (.string t115)) (fun _ hk=>hk.2) (.slice Ao21 t116.length co21)) (fun _ hk=>hk.2) (.slice Ao20 t119.length co20)) (fun _ hk=>hk.2) (.int .i64 0)) (fun _ hk=>hk.2) (.int .i64 0)) (fun _ hk=>hk.2) (.slice Ao19 y122.length co19)) (fun _ hk=>trivial),by repeat (first|(with_reducible first|exact HB.out|apply zq4|apply zq0|apply zq3|refine zq2 ?_ GE112.out|refine zq2 ?_ GE113.out|refine zq2 ?_ GE125.out)|exact HB.out)⟩
   ·replace c7:=Bool.eq_false_iff.mpr c7
    subst c7
    have H1:(some (bz0,bz0,bz0,([]:List (S30)),([]:List ByteArray),0,0,([]:List Int)))=some (r1,r2,r3,r4,r5,r6,r7,r8):=by rw [if_neg (show ¬ (false=true) by decide)] at H;exact H
    clear H
    have H:=H1
    clear H1
    simp only [Option.some.injEq,Prod.mk.injEq] at H
    obtain ⟨rfl,rfl,rfl,rfl,rfl,rfl,rfl,rfl⟩:=H
    go_enter Tryd.func35,Tryd.ntmps35
    try go_wp2_with (first|((with_reducible refine zq21 (N:=3) rfl ?_);refine zq23 ?hg (N:=3) ?hd (cs:=#[.string a1_0,.string a1_1,.slice A1_2 l1_2.length c1_2,.slice A1_3 l1_3.length c1_3]) (t:=33) ?hr ?_;(case hd=>rfl);(case hg=>rfl);(case hr=>first|(go_simp;done)|(go_simp;rfl));intro gb112 hg w37 hbox hb;have n0_:=zA (zq11 (by repeat (first|(with_reducible first|exact HB.out|apply zq4|apply zq0|apply zq3)|exact HB.out)) hb);have n1_:=zA (hbox);have n2_:=zA ((by rw [hg];exact (zq14 (by repeat (first|(with_reducible first|exact HB.out|apply zq4|apply zq0|apply zq3)|exact HB.out))):w.heap.size≤gb112));have n3_:=zA ((by rw [hg];exact (zq14 (by repeat (first|(with_reducible first|exact HB.out|apply zq4|apply zq0|apply zq3)|exact HB.out))):w.heap.size≤gb112));clear HB;have HB:=n0_;have BK112:=n1_;have GW112:=n2_;have GE112:=n3_;clear n0_ n1_ n2_ n3_;clear hb hbox hg)|((with_reducible refine zq21 (N:=4) rfl ?_);refine zq23 ?hg (N:=4) ?hd (cs:=#[.string bz0,.string bz0,.string bz0,.slice none 0 0,.slice none 0 0,.int .i64 0,.int .i64 0,.slice none 0 0]) (t:=67) ?hr ?_;(case hd=>rfl);(case hg=>rfl);(case hr=>first|(go_simp;done)|(go_simp;rfl));intro gb113 hg w38 hbox hb;have n0_:=zA (zq13 (by (with_reducible repeat (first|refine zq6 ?_ _|refine zq8 ?_|refine zq5 ?_ _));exact BK112.out) hb);have n1_:=zA (zq11 (by repeat (first|(with_reducible first|exact HB.out|apply zq4|apply zq0|apply zq3|refine zq2 ?_ GE112.out)|exact HB.out)) hb);have n2_:=zA (hbox);have n3_:=zA ((by rw [hg];exact (zq14 (by repeat (first|(with_reducible first|exact HB.out|apply zq4|apply zq0|apply zq3|refine zq2 ?_ GE112.out)|exact HB.out))):w.heap.size≤gb113));have n4_:=zA ((by rw [hg];exact (zq14 (by repeat (first|(with_reducible first|exact HB.out|apply zq4|apply zq0|apply zq3|refine zq2 ?_ GE112.out)|exact HB.out))):w.heap.size≤gb113));have n5_:=zA ((by rw [hg];exact Nat.ne_of_lt (zq25 (g:=gb112) (o:=.cells #[.string a1_0,.string a1_1,.slice A1_2 l1_2.length c1_2,.slice A1_3 l1_3.length c1_3] 33 (0,0)) (by (with_reducible repeat (first|refine zq6 ?_ _|refine zq8 ?_|refine zq5 ?_ _));exact BK112.out)):gb112≠gb113));have n6_:=zA ((by rw [hg];exact Nat.ne_of_gt (zq25 (g:=gb112) (o:=.cells #[.string a1_0,.string a1_1,.slice A1_2 l1_2.length c1_2,.slice A1_3 l1_3.length c1_3] 33 (0,0)) (by (with_reducible repeat (first|refine zq6 ?_ _|refine zq8 ?_|refine zq5 ?_ _));exact BK112.out)):gb113≠gb112));clear BK112;clear HB;have BK112:=n0_;have HB:=n1_;have BK113:=n2_;have GW113:=n3_;have GE113:=n4_;have NB112_113:=n5_;have NB113_112:=n6_;clear n0_ n1_ n2_ n3_ n4_ n5_ n6_;clear hb hbox hg))
    have n0_:=zA (zq8 BK112.out)
    have n1_:=zA (zq8 BK113.out)
    have n2_:=zA (zq3 HB.out)
    clear BK112
    clear BK113
    clear HB
    have BK112:=n0_
    have BK113:=n1_
    have HB:=n2_
    clear n0_ n1_ n2_
    refine start_ (n:=10) (S:=fun w'=>w'.cell? ⟨gb112,0,none⟩=some (.string a1_0)∧w'.cell? ⟨gb112,1,none⟩=some (.string a1_1)∧w'.cell? ⟨gb112,2,none⟩=some (.slice A1_2 l1_2.length c1_2)∧w'.cell? ⟨gb112,3,none⟩=some (.slice A1_3 l1_3.length c1_3)) (ds:=[]) #[false,false,false,false,false,false,false,false,false,false] (by kernel_rfl) rfl rfl ⟨zq1 BK112.out 0,zq1 BK112.out 1,zq1 BK112.out 2,zq1 BK112.out 3⟩ (fun hHeld=>?_);refine with_tabW impl_CliNew.tab1 impl_CliNew.bits1 (fun HT_ HW_=>?_)
    generalize w38.drew=w39 at BK112 BK113 HB hHeld ⊢
    refine pure_ (i:=0) (N:=some 6) (v:=?_) (a':=?_) #[true,false,false,false,false,false,false,false,false,false] rfl rfl (any_of HT_.out (by kernel_rfl)) (fun _ _ _ h=>h) (Or.inl ⟨by rfl,?_⟩) ?_ ?_
    rotate_left
    ·intro w'
     go_simp
     with_reducible rfl
    rotate_left
    ·simp only [Act.put,zL0,zL1,zL2,i64_w,i32_w]
     rfl
    refine pure_ (i:=3) (N:=some 9) (v:=?_) (a':=?_) #[true,false,false,true,false,false,false,false,false,false] rfl rfl (any_of HT_.out (by kernel_rfl)) (fun _ _ _ h=>h) (Or.inl ⟨by rfl,?_⟩) ?_ ?_
    rotate_left
    ·intro w'
     go_simp
     with_reducible rfl
    rotate_left
    ·simp only [Act.put,zL0,zL1,zL2,i64_w,i32_w]
     rfl
    refine take_ (i:=1) (N:=some 7) (v:=?_) (a':=?_) #[true,true,false,true,false,false,false,false,false,false] rfl rfl (take_ofW HT_.out HW_.out (by kernel_rfl)) (fun _ _ _ h=>h) (Or.inl ⟨by rfl,?_⟩) hHeld ?_ ?_
    rotate_left
    ·rintro w' ⟨s0,s1,s2,s3⟩
     go_simp
     with_reducible rfl
    rotate_left
    ·simp only [Act.put,zL0,zL1,zL2,i64_w,i32_w]
     rfl
    refine take_ (i:=4) (N:=some 10) (v:=?_) (a':=?_) #[true,true,false,true,true,false,false,false,false,false] rfl rfl (take_ofW HT_.out HW_.out (by kernel_rfl)) (fun _ _ _ h=>h) (Or.inl ⟨by rfl,?_⟩) hHeld ?_ ?_
    rotate_left
    ·rintro w' ⟨s0,s1,s2,s3⟩
     go_simp
     with_reducible rfl
    rotate_left
    ·simp only [Act.put,zL0,zL1,zL2,i64_w,i32_w]
     rfl
    refine pure_ (i:=5) (N:=some 11) (v:=?_) (a':=?_) #[true,true,false,true,true,true,false,false,false,false] rfl rfl (any_of HT_.out (by kernel_rfl)) (fun _ _ _ h=>h) (Or.inl ⟨by rfl,?_⟩) ?_ ?_
    rotate_left
    ·intro w'
     go_simp
     with_reducible rfl
    rotate_left
    ·simp only [Act.put,zL0,zL1,zL2,i64_w,i32_w]
     rfl
    refine join_ (σ:=Value × Value × Value × Nat) 1 #[true,true,true,true,true,true,true,true,true,false] (fun s_=>[(8,.agg #[.string t114,.string t115,s_.1,s_.2.1]),(12,s_.2.2.1),(5,.pointer (some ⟨s_.2.2.2,0,none⟩)),(13,.agg #[.string a0,.string t114,.string t115,s_.1,s_.2.1,.int .i64 0,.int .i64 0,s_.2.2.1])]) (fun s_ w'=>(w'.cell? ⟨gb112,0,none⟩=some (.string a1_0)∧w'.cell? ⟨gb112,1,none⟩=some (.string a1_1)∧w'.cell? ⟨gb112,2,none⟩=some (.slice A1_2 l1_2.length c1_2)∧w'.cell? ⟨gb112,3,none⟩=some (.slice A1_3 l1_3.length c1_3))∧(Kd.R k30 30 w' w.heap.size (fun _=>True) s_.1 t116)∧(Kd.R Kd.string 9 w' w.heap.size (fun _=>True) s_.2.1 t119)∧(Kd.R (Kd.int .i64) 3 w' w.heap.size (fun _=>True) s_.2.2.1 y122)∧(w'.heap[gb112]?=some (.cells #[.string a1_0,.string a1_1,.slice A1_2 l1_2.length c1_2,.slice A1_3 l1_3.length c1_3] 33 (0,0)))∧(w'.heap[gb113]?=some (.cells #[.string bz0,.string bz0,.string bz0,.slice none 0 0,.slice none 0 0,.int .i64 0,.int .i64 0,.slice none 0 0] 67 (0,0)))∧(w'.heap[s_.2.2.2]?=some (.cells #[.string bz0,.string bz0,.string bz0,.slice none 0 0,.slice none 0 0,.int .i64 0,.int .i64 0,.slice none 0 0] 67 (0,0)))∧(w.heap.size≤s_.2.2.2)∧(w.heap.size≤s_.2.2.2)∧(gb112≠s_.2.2.2)∧(s_.2.2.2≠gb112)∧(gb113≠s_.2.2.2)∧(s_.2.2.2≠gb113)∧(Below w.heap.size w w')) ?_ ?_
    rotate_left
    ·intro hJ2_6_8
     refine join_ (σ:=Value × Value × Value) 2 #[true,true,true,true,true,true,true,true,false,false] (fun s_=>[(8,.agg #[.string t114,.string t115,s_.1,s_.2.1]),(12,s_.2.2),(13,.agg #[.string a0,.string t114,.string t115,s_.1,s_.2.1,.int .i64 0,.int .i64 0,s_.2.2])]) (fun s_ w'=>(w'.cell? ⟨gb112,0,none⟩=some (.string a1_0)∧w'.cell? ⟨gb112,1,none⟩=some (.string a1_1)∧w'.cell? ⟨gb112,2,none⟩=some (.slice A1_2 l1_2.length c1_2)∧w'.cell? ⟨gb112,3,none⟩=some (.slice A1_3 l1_3.length c1_3))∧(Kd.R k30 30 w' w.heap.size (fun _=>True) s_.1 t116)∧(Kd.R Kd.string 9 w' w.heap.size (fun _=>True) s_.2.1 t119)∧(Kd.R (Kd.int .i64) 3 w' w.heap.size (fun _=>True) s_.2.2 y122)∧(w'.heap[gb112]?=some (.cells #[.string a1_0,.string a1_1,.slice A1_2 l1_2.length c1_2,.slice A1_3 l1_3.length c1_3] 33 (0,0)))∧(w'.heap[gb113]?=some (.cells #[.string bz0,.string bz0,.string bz0,.slice none 0 0,.slice none 0 0,.int .i64 0,.int .i64 0,.slice none 0 0] 67 (0,0)))∧(Below w.heap.size w w')) ?_ ?_
     rotate_left
     ·intro hJ2_6
      refine join_ (σ:=Value × Value × Nat) 3 #[true,true,true,true,true,true,false,false,true,false] (fun s_=>[(8,.agg #[.string t114,.string t115,s_.1,s_.2.1]),(5,.pointer (some ⟨s_.2.2,0,none⟩))]) (fun s_ w'=>(w'.cell? ⟨gb112,0,none⟩=some (.string a1_0)∧w'.cell? ⟨gb112,1,none⟩=some (.string a1_1)∧w'.cell? ⟨gb112,2,none⟩=some (.slice A1_2 l1_2.length c1_2)∧w'.cell? ⟨gb112,3,none⟩=some (.slice A1_3 l1_3.length c1_3))∧(Kd.R k30 30 w' w.heap.size (fun _=>True) s_.1 t116)∧(Kd.R Kd.string 9 w' w.heap.size (fun _=>True) s_.2.1 t119)∧(w'.heap[gb112]?=some (.cells #[.string a1_0,.string a1_1,.slice A1_2 l1_2.length c1_2,.slice A1_3 l1_3.length c1_3] 33 (0,0)))∧(w'.heap[gb113]?=some (.cells #[.string bz0,.string bz0,.string bz0,.slice none 0 0,.slice none 0 0,.int .i64 0,.int .i64 0,.slice none 0 0] 67 (0,0)))∧(w'.heap[s_.2.2]?=some (.cells #[.string bz0,.string bz0,.string bz0,.slice none 0 0,.slice none 0 0,.int .i64 0,.int .i64 0,.slice none 0 0] 67 (0,0)))∧(w.heap.size≤s_.2.2)∧(w.heap.size≤s_.2.2)∧(gb112≠s_.2.2)∧(s_.2.2≠gb112)∧(gb113≠s_.2.2)∧(s_.2.2≠gb113)∧(Below w.heap.size w w')) ?_ ?_
      rotate_left
      ·intro hJ2_8
       refine join_ (σ:=Value × Nat) 3 #[true,true,false,true,true,true,true,false,true,false] (fun s_=>[(12,s_.1),(5,.pointer (some ⟨s_.2,0,none⟩))]) (fun s_ w'=>(w'.cell? ⟨gb112,0,none⟩=some (.string a1_0)∧w'.cell? ⟨gb112,1,none⟩=some (.string a1_1)∧w'.cell? ⟨gb112,2,none⟩=some (.slice A1_2 l1_2.length c1_2)∧w'.cell? ⟨gb112,3,none⟩=some (.slice A1_3 l1_3.length c1_3))∧(Kd.R (Kd.int .i64) 3 w' w.heap.size (fun _=>True) s_.1 y122)∧(w'.heap[gb112]?=some (.cells #[.string a1_0,.string a1_1,.slice A1_2 l1_2.length c1_2,.slice A1_3 l1_3.length c1_3] 33 (0,0)))∧(w'.heap[gb113]?=some (.cells #[.string bz0,.string bz0,.string bz0,.slice none 0 0,.slice none 0 0,.int .i64 0,.int .i64 0,.slice none 0 0] 67 (0,0)))∧(w'.heap[s_.2]?=some (.cells #[.string bz0,.string bz0,.string bz0,.slice none 0 0,.slice none 0 0,.int .i64 0,.int .i64 0,.slice none 0 0] 67 (0,0)))∧(w.heap.size≤s_.2)∧(w.heap.size≤s_.2)∧(gb112≠s_.2)∧(s_.2≠gb112)∧(gb113≠s_.2)∧(s_.2≠gb113)∧(Below w.heap.size w w')) ?_ ?_
       rotate_left
       ·intro hJ6_8
        refine join_ (σ:=Value × Value) 4 #[true,true,true,true,true,true,false,false,false,false] (fun s_=>[(8,.agg #[.string t114,.string t115,s_.1,s_.2])]) (fun s_ w'=>(w'.cell? ⟨gb112,0,none⟩=some (.string a1_0)∧w'.cell? ⟨gb112,1,none⟩=some (.string a1_1)∧w'.cell? ⟨gb112,2,none⟩=some (.slice A1_2 l1_2.length c1_2)∧w'.cell? ⟨gb112,3,none⟩=some (.slice A1_3 l1_3.length c1_3))∧(Kd.R k30 30 w' w.heap.size (fun _=>True) s_.1 t116)∧(Kd.R Kd.string 9 w' w.heap.size (fun _=>True) s_.2 t119)∧(w'.heap[gb112]?=some (.cells #[.string a1_0,.string a1_1,.slice A1_2 l1_2.length c1_2,.slice A1_3 l1_3.length c1_3] 33 (0,0)))∧(w'.heap[gb113]?=some (.cells #[.string bz0,.string bz0,.string bz0,.slice none 0 0,.slice none 0 0,.int .i64 0,.int .i64 0,.slice none 0 0] 67 (0,0)))∧(Below w.heap.size w w')) ?_ ?_
        rotate_left
        ·intro hJ2
         refine join_ (σ:=Value) 4 #[true,true,false,true,true,true,true,false,false,false] (fun s_=>[(12,s_)]) (fun s_ w'=>(w'.cell? ⟨gb112,0,none⟩=some (.string a1_0)∧w'.cell? ⟨gb112,1,none⟩=some (.string a1_1)∧w'.cell? ⟨gb112,2,none⟩=some (.slice A1_2 l1_2.length c1_2)∧w'.cell? ⟨gb112,3,none⟩=some (.slice A1_3 l1_3.length c1_3))∧(Kd.R (Kd.int .i64) 3 w' w.heap.size (fun _=>True) s_ y122)∧(w'.heap[gb112]?=some (.cells #[.string a1_0,.string a1_1,.slice A1_2 l1_2.length c1_2,.slice A1_3 l1_3.length c1_3] 33 (0,0)))∧(w'.heap[gb113]?=some (.cells #[.string bz0,.string bz0,.string bz0,.slice none 0 0,.slice none 0 0,.int .i64 0,.int .i64 0,.slice none 0 0] 67 (0,0)))∧(Below w.heap.size w w')) ?_ ?_
         rotate_left
         ·intro hJ6
          refine join_ (σ:=Nat) 4 #[true,true,false,true,true,true,false,false,true,false] (fun s_=>[(5,.pointer (some ⟨s_,0,none⟩))]) (fun s_ w'=>(w'.cell? ⟨gb112,0,none⟩=some (.string a1_0)∧w'.cell? ⟨gb112,1,none⟩=some (.string a1_1)∧w'.cell? ⟨gb112,2,none⟩=some (.slice A1_2 l1_2.length c1_2)∧w'.cell? ⟨gb112,3,none⟩=some (.slice A1_3 l1_3.length c1_3))∧(w'.heap[gb112]?=some (.cells #[.string a1_0,.string a1_1,.slice A1_2 l1_2.length c1_2,.slice A1_3 l1_3.length c1_3] 33 (0,0)))∧(w'.heap[gb113]?=some (.cells #[.string bz0,.string bz0,.string bz0,.slice none 0 0,.slice none 0 0,.int .i64 0,.int .i64 0,.slice none 0 0] 67 (0,0)))∧(w'.heap[s_]?=some (.cells #[.string bz0,.string bz0,.string bz0,.slice none 0 0,.slice none 0 0,.int .i64 0,.int .i64 0,.slice none 0 0] 67 (0,0)))∧(w.heap.size≤s_)∧(w.heap.size≤s_)∧(gb112≠s_)∧(s_≠gb112)∧(gb113≠s_)∧(s_≠gb113)∧(Below w.heap.size w w')) ?_ ?_
          rotate_left
          ·intro hJ8
           refine three_ (i:=2) (j:=6) (k:=8) (Ni:=some 8) (Nj:=some 12) (Nk:=some 5) #[true,true,true,true,true,true,false,false,false,false] #[true,true,false,true,true,true,true,false,false,false] #[true,true,false,true,true,true,false,false,true,false] rfl rfl rfl rfl rfl rfl (three_of HT_.out (by kernel_rfl)) (by decide) (by decide) (by decide) (fun K hK=>?_) (fun K hK=>?_) (fun K hK=>?_)
           ·skip
            refine goes_ Tryd.func82 (by kernel_rfl) rfl #[.agg #[.string a1_0,.string a1_1,.slice A1_2 l1_2.length c1_2,.slice A1_3 l1_3.length c1_3]] (by rfl) rfl rfl (by (try simp only [zL3,zL4,zL5]);first|done|rfl|(simp only [zL6,zL7];rfl)) ?_
            with_reducible refine (impl_Mail_copied.calls a1_0 a1_1 _ _ l1_2 _ _ l1_3 t114 t115 t116 t119 _ ?side1 ?side2 ?side3 ?side4 A3.out).mono ?_
            (case side1=>repeat (first|exact (Kd.z1 HR1_2.out HB.out)|(with_reducible refine Kd.z0 ?_ _)|(with_reducible refine Kd.z3 ?_ _)|(with_reducible refine Kd.z2 ?_)))
            (case side2=>exact HC1_2.out)
            (case side3=>repeat (first|exact (Kd.z1 HR1_3.out HB.out)|(with_reducible refine Kd.z0 ?_ _)|(with_reducible refine Kd.z3 ?_ _)|(with_reducible refine Kd.z2 ?_)))
            (case side4=>exact HC1_3.out)
            rintro e w40 ⟨v117,v120,rfl,ho0,ho1,hb⟩
            refine ⟨_,rfl,?_⟩
            have n0_:=zA (Kd.z10 ho0 (zq14 (by repeat (first|(with_reducible first|exact HB.out|apply zq4|apply zq0|apply zq3|refine zq2 ?_ GE112.out|refine zq2 ?_ GE113.out)|exact HB.out))))
            have n1_:=zA (Kd.z10 ho1 (zq14 (by repeat (first|(with_reducible first|exact HB.out|apply zq4|apply zq0|apply zq3|refine zq2 ?_ GE112.out|refine zq2 ?_ GE113.out)|exact HB.out))))
            have n2_:=zA (zq13 (by (with_reducible repeat (first|refine zq6 ?_ _|refine zq8 ?_|refine zq5 ?_ _));exact BK112.out) hb)
            have n3_:=zA (zq13 (by (with_reducible repeat (first|refine zq6 ?_ _|refine zq8 ?_|refine zq5 ?_ _));exact BK113.out) hb)
            have n4_:=zA (zq11 (by repeat (first|(with_reducible first|exact HB.out|apply zq4|apply zq0|apply zq3|refine zq2 ?_ GE112.out|refine zq2 ?_ GE113.out)|exact HB.out)) hb)
            clear BK112
            clear BK113
            clear HB
            have HO118:=n0_
            have HO121:=n1_
            have BK112:=n2_
            have BK113:=n3_
            have HB:=n4_
            clear n0_ n1_ n2_ n3_ n4_
            (try clear hb)
            (try clear hk)
            (try clear ho0)
            (try clear ho1)
            refine hK.out _ _ ⟨zq1 BK112.out 0,zq1 BK112.out 1,zq1 BK112.out 2,zq1 BK112.out 3⟩ (fun hHeld=>?_)
            clear hK K
            refine norm_ (a':=?_) ?_ ?_
            rotate_left
            ·show Act.put _ (some 8) _=_
             simp only [Act.put,zL0,zL1,zL2,i64_w,i32_w]
             rfl
            exact norm_ (by first|(simp only [putAll,Act.put,zL0,zL1,zL2];done)|(simp only [putAll,Act.put,zL0,zL1,zL2];rfl)) (hJ2 (v117,v120) _ ⟨hHeld,(by (with_reducible repeat (first|apply Kd.z4|apply Kd.z7|apply Kd.z6));exact HO118.out),(by (with_reducible repeat (first|apply Kd.z4|apply Kd.z7|apply Kd.z6));exact HO121.out),(by (with_reducible repeat (first|refine zq6 ?_ _|refine zq8 ?_|refine zq5 ?_ _));exact BK112.out),(by (with_reducible repeat (first|refine zq6 ?_ _|refine zq8 ?_|refine zq5 ?_ _));exact BK113.out),(by repeat (first|(with_reducible first|exact HB.out|apply zq4|apply zq0|apply zq3|refine zq2 ?_ GE112.out|refine zq2 ?_ GE113.out)|exact HB.out))⟩)
           ·skip
            refine Kd.R_make_step (Kd.int .i64) _ 3 (by rfl) (N:=12) rfl 61 _ _ rfl (l1_2.length:Int) rfl rfl Tryd.underlying61 (.int .i64 0) 8 info3 rfl (by decide) (by omega) 0 (ok:=fun _=>True) (okp:=fun _=>True) rfl (fun _ hk=>hk) trivial (of_decide_eq_true (by first|(with_reducible assumption)|assumption)) (Nat.le_trans (Nat.mul_le_mul_right _ (of_decide_eq_true (by first|(with_reducible assumption)|assumption):(l1_2.length:Int).toNat≤35184372088832)) (by omega)) (Below.refl _ _) (Nat.le_refl _) ?_
            intro v123 w40 ho41 hb hg_ hnew_
            clear hg_ hnew_
            (first|rw [← Ny122.out] at ho41|(simp only [Int.reduceToNat] at ho41;rw [← Ny122.out] at ho41))
            have n0_:=zA (Kd.z10 ho41 (zq14 (by repeat (first|(with_reducible first|exact HB.out|apply zq4|apply zq0|apply zq3|refine zq2 ?_ GE112.out|refine zq2 ?_ GE113.out)|exact HB.out))))
            have n1_:=zA (zq13 (by (with_reducible repeat (first|refine zq6 ?_ _|refine zq8 ?_|refine zq5 ?_ _));exact BK112.out) hb)
            have n2_:=zA (zq13 (by (with_reducible repeat (first|refine zq6 ?_ _|refine zq8 ?_|refine zq5 ?_ _));exact BK113.out) hb)
            have n3_:=zA (zq11 (by repeat (first|(with_reducible first|exact HB.out|apply zq4|apply zq0|apply zq3|refine zq2 ?_ GE112.out|refine zq2 ?_ GE113.out)|exact HB.out)) hb)
            clear BK112
            clear BK113
            clear HB
            have HO124:=n0_
            have BK112:=n1_
            have BK113:=n2_
            have HB:=n3_
            clear n0_ n1_ n2_ n3_
            clear hb ho41
            refine hK.out _ _ ⟨zq1 BK112.out 0,zq1 BK112.out 1,zq1 BK112.out 2,zq1 BK112.out 3⟩ (fun hHeld=>?_)
            clear hK K
            refine norm_ (a':=?_) ?_ ?_
            rotate_left
            ·show Act.put _ (some 12) _=_
             simp only [Act.put,zL0,zL1,zL2,i64_w,i32_w]
             rfl
            exact norm_ (by first|(simp only [putAll,Act.put,zL0,zL1,zL2];done)|(simp only [putAll,Act.put,zL0,zL1,zL2];rfl)) (hJ6 (v123) _ ⟨hHeld,(by (with_reducible repeat (first|apply Kd.z4|apply Kd.z7|apply Kd.z6));exact HO124.out),(by (with_reducible repeat (first|refine zq6 ?_ _|refine zq8 ?_|refine zq5 ?_ _));exact BK112.out),(by (with_reducible repeat (first|refine zq6 ?_ _|refine zq8 ?_|refine zq5 ?_ _));exact BK113.out),(by repeat (first|(with_reducible first|exact HB.out|apply zq4|apply zq0|apply zq3|refine zq2 ?_ GE112.out|refine zq2 ?_ GE113.out)|exact HB.out))⟩)
           ·skip
            refine box_step ?hg (N:=5) ?hd (cs:=#[.string bz0,.string bz0,.string bz0,.slice none 0 0,.slice none 0 0,.int .i64 0,.int .i64 0,.slice none 0 0]) (t:=67) ?hr ?_;(case hd=>rfl);(case hg=>rfl);(case hr=>first|(go_simp;done)|(go_simp;rfl))
            intro gb125 hg w40 hbox hb
            have n0_:=zA (zq13 (by (with_reducible repeat (first|refine zq6 ?_ _|refine zq8 ?_|refine zq5 ?_ _));exact BK112.out) hb)
            have n1_:=zA (zq13 (by (with_reducible repeat (first|refine zq6 ?_ _|refine zq8 ?_|refine zq5 ?_ _));exact BK113.out) hb)
            have n2_:=zA (zq11 (by repeat (first|(with_reducible first|exact HB.out|apply zq4|apply zq0|apply zq3|refine zq2 ?_ GE112.out|refine zq2 ?_ GE113.out)|exact HB.out)) hb)
            have n3_:=zA (hbox)
            have n4_:=zA ((by rw [hg];exact (zq14 (by repeat (first|(with_reducible first|exact HB.out|apply zq4|apply zq0|apply zq3|refine zq2 ?_ GE112.out|refine zq2 ?_ GE113.out)|exact HB.out))):w.heap.size≤gb125))
            have n5_:=zA ((by rw [hg];exact (zq14 (by repeat (first|(with_reducible first|exact HB.out|apply zq4|apply zq0|apply zq3|refine zq2 ?_ GE112.out|refine zq2 ?_ GE113.out)|exact HB.out))):w.heap.size≤gb125))
            have n6_:=zA ((by rw [hg];exact Nat.ne_of_lt (zq25 (by (with_reducible repeat (first|refine zq6 ?_ _|refine zq8 ?_|refine zq5 ?_ _));exact BK112.out)):gb112≠gb125))
            have n7_:=zA ((by rw [hg];exact Nat.ne_of_gt (zq25 (by (with_reducible repeat (first|refine zq6 ?_ _|refine zq8 ?_|refine zq5 ?_ _));exact BK112.out)):gb125≠gb112))
            have n8_:=zA ((by rw [hg];exact Nat.ne_of_lt (zq25 (by (with_reducible repeat (first|refine zq6 ?_ _|refine zq8 ?_|refine zq5 ?_ _));exact BK113.out)):gb113≠gb125))
            have n9_:=zA ((by rw [hg];exact Nat.ne_of_gt (zq25 (by (with_reducible repeat (first|refine zq6 ?_ _|refine zq8 ?_|refine zq5 ?_ _));exact BK113.out)):gb125≠gb113))
            clear BK112
            clear BK113
            clear HB
            have BK112:=n0_
            have BK113:=n1_
            have HB:=n2_
            have BK125:=n3_
            have GW125:=n4_
            have GE125:=n5_
            have NB112_125:=n6_
            have NB125_112:=n7_
            have NB113_125:=n8_
            have NB125_113:=n9_
            clear n0_ n1_ n2_ n3_ n4_ n5_ n6_ n7_ n8_ n9_
            clear hb hbox hg
            refine hK.out _ _ ⟨zq1 BK112.out 0,zq1 BK112.out 1,zq1 BK112.out 2,zq1 BK112.out 3⟩ (fun hHeld=>?_)
            clear hK K
            refine norm_ (a':=?_) ?_ ?_
            rotate_left
            ·show Act.put _ (some 5) _=_
             simp only [Act.put,zL0,zL1,zL2,i64_w,i32_w]
             rfl
            exact norm_ (by first|(simp only [putAll,Act.put,zL0,zL1,zL2];done)|(simp only [putAll,Act.put,zL0,zL1,zL2];rfl)) (hJ8 (gb125) _ ⟨hHeld,(by (with_reducible repeat (first|refine zq6 ?_ _|refine zq8 ?_|refine zq5 ?_ _));exact BK112.out),(by (with_reducible repeat (first|refine zq6 ?_ _|refine zq8 ?_|refine zq5 ?_ _));exact BK113.out),(by (with_reducible repeat (first|refine zq6 ?_ _|refine zq8 ?_|refine zq5 ?_ _));exact BK125.out),GW125.out,GE125.out,NB112_125.out,NB125_112.out,NB113_125.out,NB125_113.out,(by repeat (first|(with_reducible first|exact HB.out|apply zq4|apply zq0|apply zq3|refine zq2 ?_ GE112.out|refine zq2 ?_ GE113.out|refine zq2 ?_ GE125.out)|exact HB.out))⟩)
          ·skip
           rintro gb125 w41 ⟨hS_,h0_,h1_,h2_,h3_,h4_,h5_,h6_,h7_,h8_,h9_⟩
           have n0_:Aside0 (w41.heap[gb112]?=some (.cells #[.string a1_0,.string a1_1,.slice A1_2 l1_2.length c1_2,.slice A1_3 l1_3.length c1_3] 33 (0,0))):=⟨h0_⟩
           have n1_:Aside0 (w41.heap[gb113]?=some (.cells #[.string bz0,.string bz0,.string bz0,.slice none 0 0,.slice none 0 0,.int .i64 0,.int .i64 0,.slice none 0 0] 67 (0,0))):=⟨h1_⟩
           have n2_:Aside0 (w41.heap[gb125]?=some (.cells #[.string bz0,.string bz0,.string bz0,.slice none 0 0,.slice none 0 0,.int .i64 0,.int .i64 0,.slice none 0 0] 67 (0,0))):=⟨h2_⟩
           have n3_:Aside0 (w.heap.size≤gb125):=⟨h3_⟩
           have n4_:Aside0 (w.heap.size≤gb125):=⟨h4_⟩
           have n5_:Aside0 (gb112≠gb125):=⟨h5_⟩
           have n6_:Aside0 (gb125≠gb112):=⟨h6_⟩
           have n7_:Aside0 (gb113≠gb125):=⟨h7_⟩
           have n8_:Aside0 (gb125≠gb113):=⟨h8_⟩
           have n9_:Aside0 (Below w.heap.size w w41):=⟨h9_⟩
           clear BK112
           clear BK113
           clear HB
           clear h0_ h1_ h2_ h3_ h4_ h5_ h6_ h7_ h8_ h9_
           have BK112:=n0_
           have BK113:=n1_
           have BK125:=n2_
           have GW125:=n3_
           have GE125:=n4_
           have NB112_125:=n5_
           have NB125_112:=n6_
           have NB113_125:=n7_
           have NB125_113:=n8_
           have HB:=n9_
           clear n0_ n1_ n2_ n3_ n4_ n5_ n6_ n7_ n8_ n9_
           have hHeld:w41.cell? ⟨gb112,0,none⟩=some (.string a1_0)∧w41.cell? ⟨gb112,1,none⟩=some (.string a1_1)∧w41.cell? ⟨gb112,2,none⟩=some (.slice A1_2 l1_2.length c1_2)∧w41.cell? ⟨gb112,3,none⟩=some (.slice A1_3 l1_3.length c1_3):=hS_
           refine norm_ (a':=?_) ?_ ?_
           rotate_left
           ·simp only [putAll,Act.put,zL0,zL1,zL2]
            rfl
           refine two_ (i:=2) (j:=6) (Ni:=some 8) (Nj:=some 12) #[true,true,true,true,true,true,false,false,true,false] #[true,true,false,true,true,true,true,false,true,false] rfl rfl rfl rfl (two_of HT_.out (by kernel_rfl)) (by decide) (by decide) (fun K hK=>?_) (fun K hK=>?_)
           ·skip
            refine goes_ Tryd.func82 (by kernel_rfl) rfl #[.agg #[.string a1_0,.string a1_1,.slice A1_2 l1_2.length c1_2,.slice A1_3 l1_3.length c1_3]] (by rfl) rfl rfl (by (try simp only [zL3,zL4,zL5]);first|done|rfl|(simp only [zL6,zL7];rfl)) ?_
            with_reducible refine (impl_Mail_copied.calls a1_0 a1_1 _ _ l1_2 _ _ l1_3 t114 t115 t116 t119 _ ?side1 ?side2 ?side3 ?side4 A3.out).mono ?_
            (case side1=>repeat (first|exact (Kd.z1 HR1_2.out HB.out)|(with_reducible refine Kd.z0 ?_ _)|(with_reducible refine Kd.z3 ?_ _)|(with_reducible refine Kd.z2 ?_)))
            (case side2=>exact HC1_2.out)
            (case side3=>repeat (first|exact (Kd.z1 HR1_3.out HB.out)|(with_reducible refine Kd.z0 ?_ _)|(with_reducible refine Kd.z3 ?_ _)|(with_reducible refine Kd.z2 ?_)))
            (case side4=>exact HC1_3.out)
            rintro e w42 ⟨v117,v120,rfl,ho0,ho1,hb⟩
            refine ⟨_,rfl,?_⟩
            have n0_:=zA (Kd.z10 ho0 (zq14 (by repeat (first|(with_reducible first|exact HB.out|apply zq4|apply zq0|apply zq3|refine zq2 ?_ GE112.out|refine zq2 ?_ GE113.out|refine zq2 ?_ GE125.out)|exact HB.out))))
            have n1_:=zA (Kd.z10 ho1 (zq14 (by repeat (first|(with_reducible first|exact HB.out|apply zq4|apply zq0|apply zq3|refine zq2 ?_ GE112.out|refine zq2 ?_ GE113.out|refine zq2 ?_ GE125.out)|exact HB.out))))
            have n2_:=zA (zq13 (by (with_reducible repeat (first|refine zq6 ?_ _|refine zq8 ?_|refine zq5 ?_ _));exact BK112.out) hb)
            have n3_:=zA (zq13 (by (with_reducible repeat (first|refine zq6 ?_ _|refine zq8 ?_|refine zq5 ?_ _));exact BK113.out) hb)
            have n4_:=zA (zq13 (by (with_reducible repeat (first|refine zq6 ?_ _|refine zq8 ?_|refine zq5 ?_ _));exact BK125.out) hb)
            have n5_:=zA (zq11 (by repeat (first|(with_reducible first|exact HB.out|apply zq4|apply zq0|apply zq3|refine zq2 ?_ GE112.out|refine zq2 ?_ GE113.out|refine zq2 ?_ GE125.out)|exact HB.out)) hb)
            clear BK112
            clear BK113
            clear BK125
            clear HB
            have HO118:=n0_
            have HO121:=n1_
            have BK112:=n2_
            have BK113:=n3_
            have BK125:=n4_
            have HB:=n5_
            clear n0_ n1_ n2_ n3_ n4_ n5_
            (try clear hb)
            (try clear hk)
            (try clear ho0)
            (try clear ho1)
            refine hK.out _ _ ⟨zq1 BK112.out 0,zq1 BK112.out 1,zq1 BK112.out 2,zq1 BK112.out 3⟩ (fun hHeld=>?_)
            clear hK K
            refine norm_ (a':=?_) ?_ ?_
            rotate_left
            ·show Act.put _ (some 8) _=_
             simp only [Act.put,zL0,zL1,zL2,i64_w,i32_w]
             rfl
            exact norm_ (by first|(simp only [putAll,Act.put,zL0,zL1,zL2];done)|(simp only [putAll,Act.put,zL0,zL1,zL2];rfl)) (hJ2_8 (v117,v120,gb125) _ ⟨hHeld,(by (with_reducible repeat (first|apply Kd.z4|apply Kd.z7|apply Kd.z6));exact HO118.out),(by (with_reducible repeat (first|apply Kd.z4|apply Kd.z7|apply Kd.z6));exact HO121.out),(by (with_reducible repeat (first|refine zq6 ?_ _|refine zq8 ?_|refine zq5 ?_ _));exact BK112.out),(by (with_reducible repeat (first|refine zq6 ?_ _|refine zq8 ?_|refine zq5 ?_ _));exact BK113.out),(by (with_reducible repeat (first|refine zq6 ?_ _|refine zq8 ?_|refine zq5 ?_ _));exact BK125.out),GW125.out,GE125.out,NB112_125.out,NB125_112.out,NB113_125.out,NB125_113.out,(by repeat (first|(with_reducible first|exact HB.out|apply zq4|apply zq0|apply zq3|refine zq2 ?_ GE112.out|refine zq2 ?_ GE113.out|refine zq2 ?_ GE125.out)|exact HB.out))⟩)
           ·skip
            refine Kd.R_make_step (Kd.int .i64) _ 3 (by rfl) (N:=12) rfl 61 _ _ rfl (l1_2.length:Int) rfl rfl Tryd.underlying61 (.int .i64 0) 8 info3 rfl (by decide) (by omega) 0 (ok:=fun _=>True) (okp:=fun _=>True) rfl (fun _ hk=>hk) trivial (of_decide_eq_true (by first|(with_reducible assumption)|assumption)) (Nat.le_trans (Nat.mul_le_mul_right _ (of_decide_eq_true (by first|(with_reducible assumption)|assumption):(l1_2.length:Int).toNat≤35184372088832)) (by omega)) (Below.refl _ _) (Nat.le_refl _) ?_
            intro v123 w42 ho43 hb hg_ hnew_
            clear hg_ hnew_
            (first|rw [← Ny122.out] at ho43|(simp only [Int.reduceToNat] at ho43;rw [← Ny122.out] at ho43))
            have n0_:=zA (Kd.z10 ho43 (zq14 (by repeat (first|(with_reducible first|exact HB.out|apply zq4|apply zq0|apply zq3|refine zq2 ?_ GE112.out|refine zq2 ?_ GE113.out|refine zq2 ?_ GE125.out)|exact HB.out))))
            have n1_:=zA (zq13 (by (with_reducible repeat (first|refine zq6 ?_ _|refine zq8 ?_|refine zq5 ?_ _));exact BK112.out) hb)
            have n2_:=zA (zq13 (by (with_reducible repeat (first|refine zq6 ?_ _|refine zq8 ?_|refine zq5 ?_ _));exact BK113.out) hb)
            have n3_:=zA (zq13 (by (with_reducible repeat (first|refine zq6 ?_ _|refine zq8 ?_|refine zq5 ?_ _));exact BK125.out) hb)
            have n4_:=zA (zq11 (by repeat (first|(with_reducible first|exact HB.out|apply zq4|apply zq0|apply zq3|refine zq2 ?_ GE112.out|refine zq2 ?_ GE113.out|refine zq2 ?_ GE125.out)|exact HB.out)) hb)
            clear BK112
            clear BK113
            clear BK125
            clear HB
            have HO124:=n0_
            have BK112:=n1_
            have BK113:=n2_
            have BK125:=n3_
            have HB:=n4_
            clear n0_ n1_ n2_ n3_ n4_
            clear hb ho43
            refine hK.out _ _ ⟨zq1 BK112.out 0,zq1 BK112.out 1,zq1 BK112.out 2,zq1 BK112.out 3⟩ (fun hHeld=>?_)
            clear hK K
            refine norm_ (a':=?_) ?_ ?_
            rotate_left
            ·show Act.put _ (some 12) _=_
             simp only [Act.put,zL0,zL1,zL2,i64_w,i32_w]
             rfl
            exact norm_ (by first|(simp only [putAll,Act.put,zL0,zL1,zL2];done)|(simp only [putAll,Act.put,zL0,zL1,zL2];rfl)) (hJ6_8 (v123,gb125) _ ⟨hHeld,(by (with_reducible repeat (first|apply Kd.z4|apply Kd.z7|apply Kd.z6));exact HO124.out),(by (with_reducible repeat (first|refine zq6 ?_ _|refine zq8 ?_|refine zq5 ?_ _));exact BK112.out),(by (with_reducible repeat (first|refine zq6 ?_ _|refine zq8 ?_|refine zq5 ?_ _));exact BK113.out),(by (with_reducible repeat (first|refine zq6 ?_ _|refine zq8 ?_|refine zq5 ?_ _));exact BK125.out),GW125.out,GE125.out,NB112_125.out,NB125_112.out,NB113_125.out,NB125_113.out,(by repeat (first|(with_reducible first|exact HB.out|apply zq4|apply zq0|apply zq3|refine zq2 ?_ GE112.out|refine zq2 ?_ GE113.out|refine zq2 ?_ GE125.out)|exact HB.out))⟩)
         ·skip
          rintro v123 w42 ⟨hS_,h0_,h1_,h2_,h3_⟩
          have n0_:Aside0 (Kd.R (Kd.int .i64) 3 w42 w.heap.size (fun _=>True) v123 y122):=⟨h0_⟩
          have n1_:Aside0 (w42.heap[gb112]?=some (.cells #[.string a1_0,.string a1_1,.slice A1_2 l1_2.length c1_2,.slice A1_3 l1_3.length c1_3] 33 (0,0))):=⟨h1_⟩
          have n2_:Aside0 (w42.heap[gb113]?=some (.cells #[.string bz0,.string bz0,.string bz0,.slice none 0 0,.slice none 0 0,.int .i64 0,.int .i64 0,.slice none 0 0] 67 (0,0))):=⟨h2_⟩
          have n3_:Aside0 (Below w.heap.size w w42):=⟨h3_⟩
          clear BK112
          clear BK113
          clear HB
          clear h0_ h1_ h2_ h3_
          have HO124:=n0_
          have BK112:=n1_
          have BK113:=n2_
          have HB:=n3_
          clear n0_ n1_ n2_ n3_
          have hHeld:w42.cell? ⟨gb112,0,none⟩=some (.string a1_0)∧w42.cell? ⟨gb112,1,none⟩=some (.string a1_1)∧w42.cell? ⟨gb112,2,none⟩=some (.slice A1_2 l1_2.length c1_2)∧w42.cell? ⟨gb112,3,none⟩=some (.slice A1_3 l1_3.length c1_3):=hS_
          refine norm_ (a':=?_) ?_ ?_
          rotate_left
          ·simp only [putAll,Act.put,zL0,zL1,zL2]
           rfl
          refine two_ (i:=2) (j:=8) (Ni:=some 8) (Nj:=some 5) #[true,true,true,true,true,true,true,false,false,false] #[true,true,false,true,true,true,true,false,true,false] rfl rfl rfl rfl (two_of HT_.out (by kernel_rfl)) (by decide) (by decide) (fun K hK=>?_) (fun K hK=>?_)
          ·skip
           refine goes_ Tryd.func82 (by kernel_rfl) rfl #[.agg #[.string a1_0,.string a1_1,.slice A1_2 l1_2.length c1_2,.slice A1_3 l1_3.length c1_3]] (by rfl) rfl rfl (by (try simp only [zL3,zL4,zL5]);first|done|rfl|(simp only [zL6,zL7];rfl)) ?_
           with_reducible refine (impl_Mail_copied.calls a1_0 a1_1 _ _ l1_2 _ _ l1_3 t114 t115 t116 t119 _ ?side1 ?side2 ?side3 ?side4 A3.out).mono ?_
           (case side1=>repeat (first|exact (Kd.z1 HR1_2.out HB.out)|(with_reducible refine Kd.z0 ?_ _)|(with_reducible refine Kd.z3 ?_ _)|(with_reducible refine Kd.z2 ?_)))
           (case side2=>exact HC1_2.out)
           (case side3=>repeat (first|exact (Kd.z1 HR1_3.out HB.out)|(with_reducible refine Kd.z0 ?_ _)|(with_reducible refine Kd.z3 ?_ _)|(with_reducible refine Kd.z2 ?_)))
           (case side4=>exact HC1_3.out)
           rintro e w43 ⟨v117,v120,rfl,ho0,ho1,hb⟩
           refine ⟨_,rfl,?_⟩
           have n0_:=zA (Kd.z5 (by (with_reducible repeat (first|apply Kd.z4|apply Kd.z7|apply Kd.z6));exact HO124.out) hb)
           have n1_:=zA (Kd.z10 ho0 (zq14 (by repeat (first|(with_reducible first|exact HB.out|apply zq4|apply zq0|apply zq3|refine zq2 ?_ GE112.out|refine zq2 ?_ GE113.out)|exact HB.out))))
           have n2_:=zA (Kd.z10 ho1 (zq14 (by repeat (first|(with_reducible first|exact HB.out|apply zq4|apply zq0|apply zq3|refine zq2 ?_ GE112.out|refine zq2 ?_ GE113.out)|exact HB.out))))
           have n3_:=zA (zq13 (by (with_reducible repeat (first|refine zq6 ?_ _|refine zq8 ?_|refine zq5 ?_ _));exact BK112.out) hb)
           have n4_:=zA (zq13 (by (with_reducible repeat (first|refine zq6 ?_ _|refine zq8 ?_|refine zq5 ?_ _));exact BK113.out) hb)
           have n5_:=zA (zq11 (by repeat (first|(with_reducible first|exact HB.out|apply zq4|apply zq0|apply zq3|refine zq2 ?_ GE112.out|refine zq2 ?_ GE113.out)|exact HB.out)) hb)
           clear HO124
           clear BK112
           clear BK113
           clear HB
           have HO124:=n0_
           have HO118:=n1_
           have HO121:=n2_
           have BK112:=n3_
           have BK113:=n4_
           have HB:=n5_
           clear n0_ n1_ n2_ n3_ n4_ n5_
           (try clear hb)
           (try clear hk)
           (try clear ho0)
           (try clear ho1)
           obtain ⟨Ao44,co44,eo44⟩:=Kd.z13 HO124.out
           (first|subst eo44|(injection eo44 with f1_ f2_ f3_;have f4_:=f1_.symm;have f5_:=f3_.symm;clear f1_ f2_ f3_;subst f4_;subst f5_))
           obtain ⟨Ao45,co45,eo45⟩:=Kd.z13 HO121.out
           (first|subst eo45|(injection eo45 with f1_ f2_ f3_;have f4_:=f1_.symm;have f5_:=f3_.symm;clear f1_ f2_ f3_;subst f4_;subst f5_))
           obtain ⟨Ao46,co46,eo46⟩:=Kd.z13 HO118.out
           (first|subst eo46|(injection eo46 with f1_ f2_ f3_;have f4_:=f1_.symm;have f5_:=f3_.symm;clear f1_ f2_ f3_;subst f4_;subst f5_))
           refine hK.out _ _ ⟨zq1 BK112.out 0,zq1 BK112.out 1,zq1 BK112.out 2,zq1 BK112.out 3⟩ (fun hHeld=>?_)
           clear hK K
           refine norm_ (a':=?_) ?_ ?_
           rotate_left
           ·show Act.put _ (some 8) _=_
            simp only [Act.put,zL0,zL1,zL2,i64_w,i32_w]
            rfl
           refine pure_ (i:=7) (N:=some 13) (v:=?_) (a':=?_) #[true,true,true,true,true,true,true,true,false,false] rfl rfl (any_of HT_.out (by kernel_rfl)) (fun _ _ _ h=>h) (Or.inl ⟨by rfl,?_⟩) ?_ ?_
           rotate_left
           ·intro w'
            go_simp
            with_reducible rfl
           rotate_left
           ·simp only [Act.put,zL0,zL1,zL2,i64_w,i32_w]
            rfl
           exact norm_ (by first|(simp only [putAll,Act.put,zL0,zL1,zL2];done)|(simp only [putAll,Act.put,zL0,zL1,zL2];rfl)) (hJ2_6 (.slice Ao46 t116.length co46,.slice Ao45 t119.length co45,.slice Ao44 y122.length co44) _ ⟨hHeld,(by (with_reducible repeat (first|apply Kd.z4|apply Kd.z7|apply Kd.z6));exact HO118.out),(by (with_reducible repeat (first|apply Kd.z4|apply Kd.z7|apply Kd.z6));exact HO121.out),(by (with_reducible repeat (first|apply Kd.z4|apply Kd.z7|apply Kd.z6));exact HO124.out),(by (with_reducible repeat (first|refine zq6 ?_ _|refine zq8 ?_|refine zq5 ?_ _));exact BK112.out),(by (with_reducible repeat (first|refine zq6 ?_ _|refine zq8 ?_|refine zq5 ?_ _));exact BK113.out),(by repeat (first|(with_reducible first|exact HB.out|apply zq4|apply zq0|apply zq3|refine zq2 ?_ GE112.out|refine zq2 ?_ GE113.out)|exact HB.out))⟩)
          ·skip
           refine box_step ?hg (N:=5) ?hd (cs:=#[.string bz0,.string bz0,.string bz0,.slice none 0 0,.slice none 0 0,.int .i64 0,.int .i64 0,.slice none 0 0]) (t:=67) ?hr ?_;(case hd=>rfl);(case hg=>rfl);(case hr=>first|(go_simp;done)|(go_simp;rfl))
           intro gb125 hg w43 hbox hb
           have n0_:=zA (Kd.z5 (by (with_reducible repeat (first|apply Kd.z4|apply Kd.z7|apply Kd.z6));exact HO124.out) hb)
           have n1_:=zA (zq13 (by (with_reducible repeat (first|refine zq6 ?_ _|refine zq8 ?_|refine zq5 ?_ _));exact BK112.out) hb)
           have n2_:=zA (zq13 (by (with_reducible repeat (first|refine zq6 ?_ _|refine zq8 ?_|refine zq5 ?_ _));exact BK113.out) hb)
           have n3_:=zA (zq11 (by repeat (first|(with_reducible first|exact HB.out|apply zq4|apply zq0|apply zq3|refine zq2 ?_ GE112.out|refine zq2 ?_ GE113.out)|exact HB.out)) hb)
           have n4_:=zA (hbox)
           have n5_:=zA ((by rw [hg];exact (zq14 (by repeat (first|(with_reducible first|exact HB.out|apply zq4|apply zq0|apply zq3|refine zq2 ?_ GE112.out|refine zq2 ?_ GE113.out)|exact HB.out))):w.heap.size≤gb125))
           have n6_:=zA ((by rw [hg];exact (zq14 (by repeat (first|(with_reducible first|exact HB.out|apply zq4|apply zq0|apply zq3|refine zq2 ?_ GE112.out|refine zq2 ?_ GE113.out)|exact HB.out))):w.heap.size≤gb125))
           have n7_:=zA ((by rw [hg];exact Nat.ne_of_lt (zq25 (by (with_reducible repeat (first|refine zq6 ?_ _|refine zq8 ?_|refine zq5 ?_ _));exact BK112.out)):gb112≠gb125))
           have n8_:=zA ((by rw [hg];exact Nat.ne_of_gt (zq25 (by (with_reducible repeat (first|refine zq6 ?_ _|refine zq8 ?_|refine zq5 ?_ _));exact BK112.out)):gb125≠gb112))
           have n9_:=zA ((by rw [hg];exact Nat.ne_of_lt (zq25 (by (with_reducible repeat (first|refine zq6 ?_ _|refine zq8 ?_|refine zq5 ?_ _));exact BK113.out)):gb113≠gb125))
           have n10_:=zA ((by rw [hg];exact Nat.ne_of_gt (zq25 (by (with_reducible repeat (first|refine zq6 ?_ _|refine zq8 ?_|refine zq5 ?_ _));exact BK113.out)):gb125≠gb113))
           clear HO124
           clear BK112
           clear BK113
           clear HB
           have HO124:=n0_
           have BK112:=n1_
           have BK113:=n2_
           have HB:=n3_
           have BK125:=n4_
           have GW125:=n5_
           have GE125:=n6_
           have NB112_125:=n7_
           have NB125_112:=n8_
           have NB113_125:=n9_
           have NB125_113:=n10_
           clear n0_ n1_ n2_ n3_ n4_ n5_ n6_ n7_ n8_ n9_ n10_
           clear hb hbox hg
           refine hK.out _ _ ⟨zq1 BK112.out 0,zq1 BK112.out 1,zq1 BK112.out 2,zq1 BK112.out 3⟩ (fun hHeld=>?_)
           clear hK K
           refine norm_ (a':=?_) ?_ ?_
           rotate_left
           ·show Act.put _ (some 5) _=_
            simp only [Act.put,zL0,zL1,zL2,i64_w,i32_w]
            rfl
           exact norm_ (by first|(simp only [putAll,Act.put,zL0,zL1,zL2];done)|(simp only [putAll,Act.put,zL0,zL1,zL2];rfl)) (hJ6_8 (v123,gb125) _ ⟨hHeld,(by (with_reducible repeat (first|apply Kd.z4|apply Kd.z7|apply Kd.z6));exact HO124.out),(by (with_reducible repeat (first|refine zq6 ?_ _|refine zq8 ?_|refine zq5 ?_ _));exact BK112.out),(by (with_reducible repeat (first|refine zq6 ?_ _|refine zq8 ?_|refine zq5 ?_ _));exact BK113.out),(by (with_reducible repeat (first|refine zq6 ?_ _|refine zq8 ?_|refine zq5 ?_ _));exact BK125.out),GW125.out,GE125.out,NB112_125.out,NB125_112.out,NB113_125.out,NB125_113.out,(by repeat (first|(with_reducible first|exact HB.out|apply zq4|apply zq0|apply zq3|refine zq2 ?_ GE112.out|refine zq2 ?_ GE113.out|refine zq2 ?_ GE125.out)|exact HB.out))⟩)
        ·skip
         rintro ⟨v117,v120⟩ w41 ⟨hS_,h0_,h1_,h2_,h3_,h4_⟩
         have n0_:Aside0 (Kd.R k30 30 w41 w.heap.size (fun _=>True) v117 t116):=⟨h0_⟩
         have n1_:Aside0 (Kd.R Kd.string 9 w41 w.heap.size (fun _=>True) v120 t119):=⟨h1_⟩
         have n2_:Aside0 (w41.heap[gb112]?=some (.cells #[.string a1_0,.string a1_1,.slice A1_2 l1_2.length c1_2,.slice A1_3 l1_3.length c1_3] 33 (0,0))):=⟨h2_⟩
         have n3_:Aside0 (w41.heap[gb113]?=some (.cells #[.string bz0,.string bz0,.string bz0,.slice none 0 0,.slice none 0 0,.int .i64 0,.int .i64 0,.slice none 0 0] 67 (0,0))):=⟨h3_⟩
         have n4_:Aside0 (Below w.heap.size w w41):=⟨h4_⟩
         clear BK112
         clear BK113
         clear HB
         clear h0_ h1_ h2_ h3_ h4_
         have HO118:=n0_
         have HO121:=n1_
         have BK112:=n2_
         have BK113:=n3_
         have HB:=n4_
         clear n0_ n1_ n2_ n3_ n4_
         have hHeld:w41.cell? ⟨gb112,0,none⟩=some (.string a1_0)∧w41.cell? ⟨gb112,1,none⟩=some (.string a1_1)∧w41.cell? ⟨gb112,2,none⟩=some (.slice A1_2 l1_2.length c1_2)∧w41.cell? ⟨gb112,3,none⟩=some (.slice A1_3 l1_3.length c1_3):=hS_
         refine norm_ (a':=?_) ?_ ?_
         rotate_left
         ·simp only [putAll,Act.put,zL0,zL1,zL2]
          rfl
         refine two_ (i:=6) (j:=8) (Ni:=some 12) (Nj:=some 5) #[true,true,true,true,true,true,true,false,false,false] #[true,true,true,true,true,true,false,false,true,false] rfl rfl rfl rfl (two_of HT_.out (by kernel_rfl)) (by decide) (by decide) (fun K hK=>?_) (fun K hK=>?_)
         ·skip
          refine Kd.R_make_step (Kd.int .i64) _ 3 (by rfl) (N:=12) rfl 61 _ _ rfl (l1_2.length:Int) rfl rfl Tryd.underlying61 (.int .i64 0) 8 info3 rfl (by decide) (by omega) 0 (ok:=fun _=>True) (okp:=fun _=>True) rfl (fun _ hk=>hk) trivial (of_decide_eq_true (by first|(with_reducible assumption)|assumption)) (Nat.le_trans (Nat.mul_le_mul_right _ (of_decide_eq_true (by first|(with_reducible assumption)|assumption):(l1_2.length:Int).toNat≤35184372088832)) (by omega)) (Below.refl _ _) (Nat.le_refl _) ?_
          intro v123 w42 ho43 hb hg_ hnew_
          clear hg_ hnew_
          (first|rw [← Ny122.out] at ho43|(simp only [Int.reduceToNat] at ho43;rw [← Ny122.out] at ho43))
          have n0_:=zA (Kd.z5 (by (with_reducible repeat (first|apply Kd.z4|apply Kd.z7|apply Kd.z6));exact HO118.out) hb)
          have n1_:=zA (Kd.z5 (by (with_reducible repeat (first|apply Kd.z4|apply Kd.z7|apply Kd.z6));exact HO121.out) hb)
          have n2_:=zA (Kd.z10 ho43 (zq14 (by repeat (first|(with_reducible first|exact HB.out|apply zq4|apply zq0|apply zq3|refine zq2 ?_ GE112.out|refine zq2 ?_ GE113.out)|exact HB.out))))
          have n3_:=zA (zq13 (by (with_reducible repeat (first|refine zq6 ?_ _|refine zq8 ?_|refine zq5 ?_ _));exact BK112.out) hb)
          have n4_:=zA (zq13 (by (with_reducible repeat (first|refine zq6 ?_ _|refine zq8 ?_|refine zq5 ?_ _));exact BK113.out) hb)
          have n5_:=zA (zq11 (by repeat (first|(with_reducible first|exact HB.out|apply zq4|apply zq0|apply zq3|refine zq2 ?_ GE112.out|refine zq2 ?_ GE113.out)|exact HB.out)) hb)
          clear HO118
          clear HO121
          clear BK112
          clear BK113
          clear HB
          have HO118:=n0_
          have HO121:=n1_
          have HO124:=n2_
          have BK112:=n3_
          have BK113:=n4_
          have HB:=n5_
          clear n0_ n1_ n2_ n3_ n4_ n5_
          clear hb ho43
          obtain ⟨Ao44,co44,eo44⟩:=Kd.z13 HO124.out
          (first|subst eo44|(injection eo44 with f1_ f2_ f3_;have f4_:=f1_.symm;have f5_:=f3_.symm;clear f1_ f2_ f3_;subst f4_;subst f5_))
          obtain ⟨Ao45,co45,eo45⟩:=Kd.z13 HO121.out
          (first|subst eo45|(injection eo45 with f1_ f2_ f3_;have f4_:=f1_.symm;have f5_:=f3_.symm;clear f1_ f2_ f3_;subst f4_;subst f5_))
          obtain ⟨Ao46,co46,eo46⟩:=Kd.z13 HO118.out
          (first|subst eo46|(injection eo46 with f1_ f2_ f3_;have f4_:=f1_.symm;have f5_:=f3_.symm;clear f1_ f2_ f3_;subst f4_;subst f5_))
          refine hK.out _ _ ⟨zq1 BK112.out 0,zq1 BK112.out 1,zq1 BK112.out 2,zq1 BK112.out 3⟩ (fun hHeld=>?_)
          clear hK K
          refine norm_ (a':=?_) ?_ ?_
          rotate_left
          ·show Act.put _ (some 12) _=_
           simp only [Act.put,zL0,zL1,zL2,i64_w,i32_w]
           rfl
          refine pure_ (i:=7) (N:=some 13) (v:=?_) (a':=?_) #[true,true,true,true,true,true,true,true,false,false] rfl rfl (any_of HT_.out (by kernel_rfl)) (fun _ _ _ h=>h) (Or.inl ⟨by rfl,?_⟩) ?_ ?_
          rotate_left
          ·intro w'
           go_simp
           with_reducible rfl
          rotate_left
          ·simp only [Act.put,zL0,zL1,zL2,i64_w,i32_w]
           rfl
          exact norm_ (by first|(simp only [putAll,Act.put,zL0,zL1,zL2];done)|(simp only [putAll,Act.put,zL0,zL1,zL2];rfl)) (hJ2_6 (.slice Ao46 t116.length co46,.slice Ao45 t119.length co45,.slice Ao44 y122.length co44) _ ⟨hHeld,(by (with_reducible repeat (first|apply Kd.z4|apply Kd.z7|apply Kd.z6));exact HO118.out),(by (with_reducible repeat (first|apply Kd.z4|apply Kd.z7|apply Kd.z6));exact HO121.out),(by (with_reducible repeat (first|apply Kd.z4|apply Kd.z7|apply Kd.z6));exact HO124.out),(by (with_reducible repeat (first|refine zq6 ?_ _|refine zq8 ?_|refine zq5 ?_ _));exact BK112.out),(by (with_reducible repeat (first|refine zq6 ?_ _|refine zq8 ?_|refine zq5 ?_ _));exact BK113.out),(by repeat (first|(with_reducible first|exact HB.out|apply zq4|apply zq0|apply zq3|refine zq2 ?_ GE112.out|refine zq2 ?_ GE113.out)|exact HB.out))⟩)
         ·skip
          refine box_step ?hg (N:=5) ?hd (cs:=#[.string bz0,.string bz0,.string bz0,.slice none 0 0,.slice none 0 0,.int .i64 0,.int .i64 0,.slice none 0 0]) (t:=67) ?hr ?_;(case hd=>rfl);(case hg=>rfl);(case hr=>first|(go_simp;done)|(go_simp;rfl))
          intro gb125 hg w42 hbox hb
          have n0_:=zA (Kd.z5 (by (with_reducible repeat (first|apply Kd.z4|apply Kd.z7|apply Kd.z6));exact HO118.out) hb)
          have n1_:=zA (Kd.z5 (by (with_reducible repeat (first|apply Kd.z4|apply Kd.z7|apply Kd.z6));exact HO121.out) hb)
          have n2_:=zA (zq13 (by (with_reducible repeat (first|refine zq6 ?_ _|refine zq8 ?_|refine zq5 ?_ _));exact BK112.out) hb)
          have n3_:=zA (zq13 (by (with_reducible repeat (first|refine zq6 ?_ _|refine zq8 ?_|refine zq5 ?_ _));exact BK113.out) hb)
          have n4_:=zA (zq11 (by repeat (first|(with_reducible first|exact HB.out|apply zq4|apply zq0|apply zq3|refine zq2 ?_ GE112.out|refine zq2 ?_ GE113.out)|exact HB.out)) hb)
          have n5_:=zA (hbox)
          have n6_:=zA ((by rw [hg];exact (zq14 (by repeat (first|(with_reducible first|exact HB.out|apply zq4|apply zq0|apply zq3|refine zq2 ?_ GE112.out|refine zq2 ?_ GE113.out)|exact HB.out))):w.heap.size≤gb125))
          have n7_:=zA ((by rw [hg];exact (zq14 (by repeat (first|(with_reducible first|exact HB.out|apply zq4|apply zq0|apply zq3|refine zq2 ?_ GE112.out|refine zq2 ?_ GE113.out)|exact HB.out))):w.heap.size≤gb125))
          have n8_:=zA ((by rw [hg];exact Nat.ne_of_lt (zq25 (by (with_reducible repeat (first|refine zq6 ?_ _|refine zq8 ?_|refine zq5 ?_ _));exact BK112.out)):gb112≠gb125))
          have n9_:=zA ((by rw [hg];exact Nat.ne_of_gt (zq25 (by (with_reducible repeat (first|refine zq6 ?_ _|refine zq8 ?_|refine zq5 ?_ _));exact BK112.out)):gb125≠gb112))
          have n10_:=zA ((by rw [hg];exact Nat.ne_of_lt (zq25 (by (with_reducible repeat (first|refine zq6 ?_ _|refine zq8 ?_|refine zq5 ?_ _));exact BK113.out)):gb113≠gb125))
          have n11_:=zA ((by rw [hg];exact Nat.ne_of_gt (zq25 (by (with_reducible repeat (first|refine zq6 ?_ _|refine zq8 ?_|refine zq5 ?_ _));exact BK113.out)):gb125≠gb113))
          clear HO118
          clear HO121
          clear BK112
          clear BK113
          clear HB
          have HO118:=n0_
          have HO121:=n1_
          have BK112:=n2_
          have BK113:=n3_
          have HB:=n4_
          have BK125:=n5_
          have GW125:=n6_
          have GE125:=n7_
          have NB112_125:=n8_
          have NB125_112:=n9_
          have NB113_125:=n10_
          have NB125_113:=n11_
          clear n0_ n1_ n2_ n3_ n4_ n5_ n6_ n7_ n8_ n9_ n10_ n11_
          clear hb hbox hg
          refine hK.out _ _ ⟨zq1 BK112.out 0,zq1 BK112.out 1,zq1 BK112.out 2,zq1 BK112.out 3⟩ (fun hHeld=>?_)
          clear hK K
          refine norm_ (a':=?_) ?_ ?_
          rotate_left
          ·show Act.put _ (some 5) _=_
           simp only [Act.put,zL0,zL1,zL2,i64_w,i32_w]
           rfl
          exact norm_ (by first|(simp only [putAll,Act.put,zL0,zL1,zL2];done)|(simp only [putAll,Act.put,zL0,zL1,zL2];rfl)) (hJ2_8 (v117,v120,gb125) _ ⟨hHeld,(by (with_reducible repeat (first|apply Kd.z4|apply Kd.z7|apply Kd.z6));exact HO118.out),(by (with_reducible repeat (first|apply Kd.z4|apply Kd.z7|apply Kd.z6));exact HO121.out),(by (with_reducible repeat (first|refine zq6 ?_ _|refine zq8 ?_|refine zq5 ?_ _));exact BK112.out),(by (with_reducible repeat (first|refine zq6 ?_ _|refine zq8 ?_|refine zq5 ?_ _));exact BK113.out),(by (with_reducible repeat (first|refine zq6 ?_ _|refine zq8 ?_|refine zq5 ?_ _));exact BK125.out),GW125.out,GE125.out,NB112_125.out,NB125_112.out,NB113_125.out,NB125_113.out,(by repeat (first|(with_reducible first|exact HB.out|apply zq4|apply zq0|apply zq3|refine zq2 ?_ GE112.out|refine zq2 ?_ GE113.out|refine zq2 ?_ GE125.out)|exact HB.out))⟩)
       ·skip
        rintro ⟨v123,gb125⟩ w43 ⟨hS_,h0_,h1_,h2_,h3_,h4_,h5_,h6_,h7_,h8_,h9_,h10_⟩
        have n0_:Aside0 (Kd.R (Kd.int .i64) 3 w43 w.heap.size (fun _=>True) v123 y122):=⟨h0_⟩
        have n1_:Aside0 (w43.heap[gb112]?=some (.cells #[.string a1_0,.string a1_1,.slice A1_2 l1_2.length c1_2,.slice A1_3 l1_3.length c1_3] 33 (0,0))):=⟨h1_⟩
        have n2_:Aside0 (w43.heap[gb113]?=some (.cells #[.string bz0,.string bz0,.string bz0,.slice none 0 0,.slice none 0 0,.int .i64 0,.int .i64 0,.slice none 0 0] 67 (0,0))):=⟨h2_⟩
        have n3_:Aside0 (w43.heap[gb125]?=some (.cells #[.string bz0,.string bz0,.string bz0,.slice none 0 0,.slice none 0 0,.int .i64 0,.int .i64 0,.slice none 0 0] 67 (0,0))):=⟨h3_⟩
        have n4_:Aside0 (w.heap.size≤gb125):=⟨h4_⟩
        have n5_:Aside0 (w.heap.size≤gb125):=⟨h5_⟩
        have n6_:Aside0 (gb112≠gb125):=⟨h6_⟩
        have n7_:Aside0 (gb125≠gb112):=⟨h7_⟩
        have n8_:Aside0 (gb113≠gb125):=⟨h8_⟩
        have n9_:Aside0 (gb125≠gb113):=⟨h9_⟩
        have n10_:Aside0 (Below w.heap.size w w43):=⟨h10_⟩
        clear BK112
        clear BK113
        clear HB
        clear h0_ h1_ h2_ h3_ h4_ h5_ h6_ h7_ h8_ h9_ h10_
        have HO124:=n0_
        have BK112:=n1_
        have BK113:=n2_
        have BK125:=n3_
        have GW125:=n4_
        have GE125:=n5_
        have NB112_125:=n6_
        have NB125_112:=n7_
        have NB113_125:=n8_
        have NB125_113:=n9_
        have HB:=n10_
        clear n0_ n1_ n2_ n3_ n4_ n5_ n6_ n7_ n8_ n9_ n10_
        have hHeld:w43.cell? ⟨gb112,0,none⟩=some (.string a1_0)∧w43.cell? ⟨gb112,1,none⟩=some (.string a1_1)∧w43.cell? ⟨gb112,2,none⟩=some (.slice A1_2 l1_2.length c1_2)∧w43.cell? ⟨gb112,3,none⟩=some (.slice A1_3 l1_3.length c1_3):=hS_
        refine norm_ (a':=?_) ?_ ?_
        rotate_left
        ·simp only [putAll,Act.put,zL0,zL1,zL2]
         rfl
        refine one_ (i:=2) (N:=some 8) #[true,true,true,true,true,true,true,false,true,false] rfl rfl (one_of HT_.out (by kernel_rfl)) (by decide) (fun K hK=>?_)
        refine goes_ Tryd.func82 (by kernel_rfl) rfl #[.agg #[.string a1_0,.string a1_1,.slice A1_2 l1_2.length c1_2,.slice A1_3 l1_3.length c1_3]] (by rfl) rfl rfl (by (try simp only [zL3,zL4,zL5]);first|done|rfl|(simp only [zL6,zL7];rfl)) ?_
        with_reducible refine (impl_Mail_copied.calls a1_0 a1_1 _ _ l1_2 _ _ l1_3 t114 t115 t116 t119 _ ?side1 ?side2 ?side3 ?side4 A3.out).mono ?_
        (case side1=>repeat (first|exact (Kd.z1 HR1_2.out HB.out)|(with_reducible refine Kd.z0 ?_ _)|(with_reducible refine Kd.z3 ?_ _)|(with_reducible refine Kd.z2 ?_)))
        (case side2=>exact HC1_2.out)
        (case side3=>repeat (first|exact (Kd.z1 HR1_3.out HB.out)|(with_reducible refine Kd.z0 ?_ _)|(with_reducible refine Kd.z3 ?_ _)|(with_reducible refine Kd.z2 ?_)))
        (case side4=>exact HC1_3.out)
        rintro e w44 ⟨v117,v120,rfl,ho0,ho1,hb⟩
        refine ⟨_,rfl,?_⟩
        have n0_:=zA (Kd.z5 (by (with_reducible repeat (first|apply Kd.z4|apply Kd.z7|apply Kd.z6));exact HO124.out) hb)
        have n1_:=zA (Kd.z10 ho0 (zq14 (by repeat (first|(with_reducible first|exact HB.out|apply zq4|apply zq0|apply zq3|refine zq2 ?_ GE112.out|refine zq2 ?_ GE113.out|refine zq2 ?_ GE125.out)|exact HB.out))))
        have n2_:=zA (Kd.z10 ho1 (zq14 (by repeat (first|(with_reducible first|exact HB.out|apply zq4|apply zq0|apply zq3|refine zq2 ?_ GE112.out|refine zq2 ?_ GE113.out|refine zq2 ?_ GE125.out)|exact HB.out))))
        have n3_:=zA (zq13 (by (with_reducible repeat (first|refine zq6 ?_ _|refine zq8 ?_|refine zq5 ?_ _));exact BK112.out) hb)
        have n4_:=zA (zq13 (by (with_reducible repeat (first|refine zq6 ?_ _|refine zq8 ?_|refine zq5 ?_ _));exact BK113.out) hb)
        have n5_:=zA (zq13 (by (with_reducible repeat (first|refine zq6 ?_ _|refine zq8 ?_|refine zq5 ?_ _));exact BK125.out) hb)
        have n6_:=zA (zq11 (by repeat (first|(with_reducible first|exact HB.out|apply zq4|apply zq0|apply zq3|refine zq2 ?_ GE112.out|refine zq2 ?_ GE113.out|refine zq2 ?_ GE125.out)|exact HB.out)) hb)
        clear HO124
        clear BK112
        clear BK113
        clear BK125
        clear HB
        have HO124:=n0_
        have HO118:=n1_
        have HO121:=n2_
        have BK112:=n3_
        have BK113:=n4_
        have BK125:=n5_
        have HB:=n6_
        clear n0_ n1_ n2_ n3_ n4_ n5_ n6_
        (try clear hb)
        (try clear hk)
        (try clear ho0)
        (try clear ho1)
        obtain ⟨Ao45,co45,eo45⟩:=Kd.z13 HO124.out
        (first|subst eo45|(injection eo45 with f1_ f2_ f3_;have f4_:=f1_.symm;have f5_:=f3_.symm;clear f1_ f2_ f3_;subst f4_;subst f5_))
        obtain ⟨Ao46,co46,eo46⟩:=Kd.z13 HO121.out
        (first|subst eo46|(injection eo46 with f1_ f2_ f3_;have f4_:=f1_.symm;have f5_:=f3_.symm;clear f1_ f2_ f3_;subst f4_;subst f5_))
        obtain ⟨Ao47,co47,eo47⟩:=Kd.z13 HO118.out
        (first|subst eo47|(injection eo47 with f1_ f2_ f3_;have f4_:=f1_.symm;have f5_:=f3_.symm;clear f1_ f2_ f3_;subst f4_;subst f5_))
        refine hK.out _ _ ⟨zq1 BK112.out 0,zq1 BK112.out 1,zq1 BK112.out 2,zq1 BK112.out 3⟩ (fun hHeld=>?_)
        clear hK K
        refine norm_ (a':=?_) ?_ ?_
        rotate_left
        ·show Act.put _ (some 8) _=_
         simp only [Act.put,zL0,zL1,zL2,i64_w,i32_w]
         rfl
        refine pure_ (i:=7) (N:=some 13) (v:=?_) (a':=?_) #[true,true,true,true,true,true,true,true,true,false] rfl rfl (any_of HT_.out (by kernel_rfl)) (fun _ _ _ h=>h) (Or.inl ⟨by rfl,?_⟩) ?_ ?_
        rotate_left
        ·intro w'
         go_simp
         with_reducible rfl
        rotate_left
        ·simp only [Act.put,zL0,zL1,zL2,i64_w,i32_w]
         rfl
        exact norm_ (by first|(simp only [putAll,Act.put,zL0,zL1,zL2];done)|(simp only [putAll,Act.put,zL0,zL1,zL2];rfl)) (hJ2_6_8 (.slice Ao47 t116.length co47,.slice Ao46 t119.length co46,.slice Ao45 y122.length co45,gb125) _ ⟨hHeld,(by (with_reducible repeat (first|apply Kd.z4|apply Kd.z7|apply Kd.z6));exact HO118.out),(by (with_reducible repeat (first|apply Kd.z4|apply Kd.z7|apply Kd.z6));exact HO121.out),(by (with_reducible repeat (first|apply Kd.z4|apply Kd.z7|apply Kd.z6));exact HO124.out),(by (with_reducible repeat (first|refine zq6 ?_ _|refine zq8 ?_|refine zq5 ?_ _));exact BK112.out),(by (with_reducible repeat (first|refine zq6 ?_ _|refine zq8 ?_|refine zq5 ?_ _));exact BK113.out),(by (with_reducible repeat (first|refine zq6 ?_ _|refine zq8 ?_|refine zq5 ?_ _));exact BK125.out),GW125.out,GE125.out,NB112_125.out,NB125_112.out,NB113_125.out,NB125_113.out,(by repeat (first|(with_reducible first|exact HB.out|apply zq4|apply zq0|apply zq3|refine zq2 ?_ GE112.out|refine zq2 ?_ GE113.out|refine zq2 ?_ GE125.out)|exact HB.out))⟩)
      ·skip
       rintro ⟨v117,v120,gb125⟩ w42 ⟨hS_,h0_,h1_,h2_,h3_,h4_,h5_,h6_,h7_,h8_,h9_,h10_,h11_⟩
       have n0_:Aside0 (Kd.R k30 30 w42 w.heap.size (fun _=>True) v117 t116):=⟨h0_⟩
       have n1_:Aside0 (Kd.R Kd.string 9 w42 w.heap.size (fun _=>True) v120 t119):=⟨h1_⟩
       have n2_:Aside0 (w42.heap[gb112]?=some (.cells #[.string a1_0,.string a1_1,.slice A1_2 l1_2.length c1_2,.slice A1_3 l1_3.length c1_3] 33 (0,0))):=⟨h2_⟩
       have n3_:Aside0 (w42.heap[gb113]?=some (.cells #[.string bz0,.string bz0,.string bz0,.slice none 0 0,.slice none 0 0,.int .i64 0,.int .i64 0,.slice none 0 0] 67 (0,0))):=⟨h3_⟩
       have n4_:Aside0 (w42.heap[gb125]?=some (.cells #[.string bz0,.string bz0,.string bz0,.slice none 0 0,.slice none 0 0,.int .i64 0,.int .i64 0,.slice none 0 0] 67 (0,0))):=⟨h4_⟩
       have n5_:Aside0 (w.heap.size≤gb125):=⟨h5_⟩
       have n6_:Aside0 (w.heap.size≤gb125):=⟨h6_⟩
       have n7_:Aside0 (gb112≠gb125):=⟨h7_⟩
       have n8_:Aside0 (gb125≠gb112):=⟨h8_⟩
       have n9_:Aside0 (gb113≠gb125):=⟨h9_⟩
       have n10_:Aside0 (gb125≠gb113):=⟨h10_⟩
       have n11_:Aside0 (Below w.heap.size w w42):=⟨h11_⟩
       clear BK112
       clear BK113
       clear HB
       clear h0_ h1_ h2_ h3_ h4_ h5_ h6_ h7_ h8_ h9_ h10_ h11_
       have HO118:=n0_
       have HO121:=n1_
       have BK112:=n2_
       have BK113:=n3_
       have BK125:=n4_
       have GW125:=n5_
       have GE125:=n6_
       have NB112_125:=n7_
       have NB125_112:=n8_
       have NB113_125:=n9_
       have NB125_113:=n10_
       have HB:=n11_
       clear n0_ n1_ n2_ n3_ n4_ n5_ n6_ n7_ n8_ n9_ n10_ n11_
       have hHeld:w42.cell? ⟨gb112,0,none⟩=some (.string a1_0)∧w42.cell? ⟨gb112,1,none⟩=some (.string a1_1)∧w42.cell? ⟨gb112,2,none⟩=some (.slice A1_2 l1_2.length c1_2)∧w42.cell? ⟨gb112,3,none⟩=some (.slice A1_3 l1_3.length c1_3):=hS_
       refine norm_ (a':=?_) ?_ ?_
       rotate_left
       ·simp only [putAll,Act.put,zL0,zL1,zL2]
        rfl
       refine one_ (i:=6) (N:=some 12) #[true,true,true,true,true,true,true,false,true,false] rfl rfl (one_of HT_.out (by kernel_rfl)) (by decide) (fun K hK=>?_)
       refine Kd.R_make_step (Kd.int .i64) _ 3 (by rfl) (N:=12) rfl 61 _ _ rfl (l1_2.length:Int) rfl rfl Tryd.underlying61 (.int .i64 0) 8 info3 rfl (by decide) (by omega) 0 (ok:=fun _=>True) (okp:=fun _=>True) rfl (fun _ hk=>hk) trivial (of_decide_eq_true (by first|(with_reducible assumption)|assumption)) (Nat.le_trans (Nat.mul_le_mul_right _ (of_decide_eq_true (by first|(with_reducible assumption)|assumption):(l1_2.length:Int).toNat≤35184372088832)) (by omega)) (Below.refl _ _) (Nat.le_refl _) ?_
       intro v123 w43 ho44 hb hg_ hnew_
       clear hg_ hnew_
       (first|rw [← Ny122.out] at ho44|(simp only [Int.reduceToNat] at ho44;rw [← Ny122.out] at ho44))
       have n0_:=zA (Kd.z5 (by (with_reducible repeat (first|apply Kd.z4|apply Kd.z7|apply Kd.z6));exact HO118.out) hb)
       have n1_:=zA (Kd.z5 (by (with_reducible repeat (first|apply Kd.z4|apply Kd.z7|apply Kd.z6));exact HO121.out) hb)
       have n2_:=zA (Kd.z10 ho44 (zq14 (by repeat (first|(with_reducible first|exact HB.out|apply zq4|apply zq0|apply zq3|refine zq2 ?_ GE112.out|refine zq2 ?_ GE113.out|refine zq2 ?_ GE125.out)|exact HB.out))))
       have n3_:=zA (zq13 (by (with_reducible repeat (first|refine zq6 ?_ _|refine zq8 ?_|refine zq5 ?_ _));exact BK112.out) hb)
       have n4_:=zA (zq13 (by (with_reducible repeat (first|refine zq6 ?_ _|refine zq8 ?_|refine zq5 ?_ _));exact BK113.out) hb)
       have n5_:=zA (zq13 (by (with_reducible repeat (first|refine zq6 ?_ _|refine zq8 ?_|refine zq5 ?_ _));exact BK125.out) hb)
       have n6_:=zA (zq11 (by repeat (first|(with_reducible first|exact HB.out|apply zq4|apply zq0|apply zq3|refine zq2 ?_ GE112.out|refine zq2 ?_ GE113.out|refine zq2 ?_ GE125.out)|exact HB.out)) hb)
       clear HO118
       clear HO121
       clear BK112
       clear BK113
       clear BK125
       clear HB
       have HO118:=n0_
       have HO121:=n1_
       have HO124:=n2_
       have BK112:=n3_
       have BK113:=n4_
       have BK125:=n5_
       have HB:=n6_
       clear n0_ n1_ n2_ n3_ n4_ n5_ n6_
       clear hb ho44
       obtain ⟨Ao45,co45,eo45⟩:=Kd.z13 HO124.out
       (first|subst eo45|(injection eo45 with f1_ f2_ f3_;have f4_:=f1_.symm;have f5_:=f3_.symm;clear f1_ f2_ f3_;subst f4_;subst f5_))
       obtain ⟨Ao46,co46,eo46⟩:=Kd.z13 HO121.out
       (first|subst eo46|(injection eo46 with f1_ f2_ f3_;have f4_:=f1_.symm;have f5_:=f3_.symm;clear f1_ f2_ f3_;subst f4_;subst f5_))
       obtain ⟨Ao47,co47,eo47⟩:=Kd.z13 HO118.out
       (first|subst eo47|(injection eo47 with f1_ f2_ f3_;have f4_:=f1_.symm;have f5_:=f3_.symm;clear f1_ f2_ f3_;subst f4_;subst f5_))
       refine hK.out _ _ ⟨zq1 BK112.out 0,zq1 BK112.out 1,zq1 BK112.out 2,zq1 BK112.out 3⟩ (fun hHeld=>?_)
       clear hK K
       refine norm_ (a':=?_) ?_ ?_
       rotate_left
       ·show Act.put _ (some 12) _=_
        simp only [Act.put,zL0,zL1,zL2,i64_w,i32_w]
        rfl
       refine pure_ (i:=7) (N:=some 13) (v:=?_) (a':=?_) #[true,true,true,true,true,true,true,true,true,false] rfl rfl (any_of HT_.out (by kernel_rfl)) (fun _ _ _ h=>h) (Or.inl ⟨by rfl,?_⟩) ?_ ?_
       rotate_left
       ·intro w'
        go_simp
        with_reducible rfl
       rotate_left
       ·simp only [Act.put,zL0,zL1,zL2,i64_w,i32_w]
        rfl
       exact norm_ (by first|(simp only [putAll,Act.put,zL0,zL1,zL2];done)|(simp only [putAll,Act.put,zL0,zL1,zL2];rfl)) (hJ2_6_8 (.slice Ao47 t116.length co47,.slice Ao46 t119.length co46,.slice Ao45 y122.length co45,gb125) _ ⟨hHeld,(by (with_reducible repeat (first|apply Kd.z4|apply Kd.z7|apply Kd.z6));exact HO118.out),(by (with_reducible repeat (first|apply Kd.z4|apply Kd.z7|apply Kd.z6));exact HO121.out),(by (with_reducible repeat (first|apply Kd.z4|apply Kd.z7|apply Kd.z6));exact HO124.out),(by (with_reducible repeat (first|refine zq6 ?_ _|refine zq8 ?_|refine zq5 ?_ _));exact BK112.out),(by (with_reducible repeat (first|refine zq6 ?_ _|refine zq8 ?_|refine zq5 ?_ _));exact BK113.out),(by (with_reducible repeat (first|refine zq6 ?_ _|refine zq8 ?_|refine zq5 ?_ _));exact BK125.out),GW125.out,GE125.out,NB112_125.out,NB125_112.out,NB113_125.out,NB125_113.out,(by repeat (first|(with_reducible first|exact HB.out|apply zq4|apply zq0|apply zq3|refine zq2 ?_ GE112.out|refine zq2 ?_ GE113.out|refine zq2 ?_ GE125.out)|exact HB.out))⟩)
     ·skip
      rintro ⟨v117,v120,v123⟩ w46 ⟨hS_,h0_,h1_,h2_,h3_,h4_,h5_⟩
      have n0_:Aside0 (Kd.R k30 30 w46 w.heap.size (fun _=>True) v117 t116):=⟨h0_⟩
      have n1_:Aside0 (Kd.R Kd.string 9 w46 w.heap.size (fun _=>True) v120 t119):=⟨h1_⟩
      have n2_:Aside0 (Kd.R (Kd.int .i64) 3 w46 w.heap.size (fun _=>True) v123 y122):=⟨h2_⟩
      have n3_:Aside0 (w46.heap[gb112]?=some (.cells #[.string a1_0,.string a1_1,.slice A1_2 l1_2.length c1_2,.slice A1_3 l1_3.length c1_3] 33 (0,0))):=⟨h3_⟩
      have n4_:Aside0 (w46.heap[gb113]?=some (.cells #[.string bz0,.string bz0,.string bz0,.slice none 0 0,.slice none 0 0,.int .i64 0,.int .i64 0,.slice none 0 0] 67 (0,0))):=⟨h4_⟩
      have n5_:Aside0 (Below w.heap.size w w46):=⟨h5_⟩
      clear BK112
      clear BK113
      clear HB
      clear h0_ h1_ h2_ h3_ h4_ h5_
      have HO118:=n0_
      have HO121:=n1_
      have HO124:=n2_
      have BK112:=n3_
      have BK113:=n4_
      have HB:=n5_
      clear n0_ n1_ n2_ n3_ n4_ n5_
      have hHeld:w46.cell? ⟨gb112,0,none⟩=some (.string a1_0)∧w46.cell? ⟨gb112,1,none⟩=some (.string a1_1)∧w46.cell? ⟨gb112,2,none⟩=some (.slice A1_2 l1_2.length c1_2)∧w46.cell? ⟨gb112,3,none⟩=some (.slice A1_3 l1_3.length c1_3):=hS_
      obtain ⟨Ao47,co47,eo47⟩:=Kd.z13 HO124.out
      (first|subst eo47|(injection eo47 with f1_ f2_ f3_;have f4_:=f1_.symm;have f5_:=f3_.symm;clear f1_ f2_ f3_;subst f4_;subst f5_))
      obtain ⟨Ao48,co48,eo48⟩:=Kd.z13 HO121.out
      (first|subst eo48|(injection eo48 with f1_ f2_ f3_;have f4_:=f1_.symm;have f5_:=f3_.symm;clear f1_ f2_ f3_;subst f4_;subst f5_))
      obtain ⟨Ao49,co49,eo49⟩:=Kd.z13 HO118.out
      (first|subst eo49|(injection eo49 with f1_ f2_ f3_;have f4_:=f1_.symm;have f5_:=f3_.symm;clear f1_ f2_ f3_;subst f4_;subst f5_))
      refine norm_ (a':=?_) ?_ ?_
      rotate_left
      ·simp only [putAll,Act.put,zL0,zL1,zL2]
       rfl
      refine one_ (i:=8) (N:=some 5) #[true,true,true,true,true,true,true,true,true,false] rfl rfl (one_of HT_.out (by kernel_rfl)) (by decide) (fun K hK=>?_)
      refine box_step ?hg (N:=5) ?hd (cs:=#[.string bz0,.string bz0,.string bz0,.slice none 0 0,.slice none 0 0,.int .i64 0,.int .i64 0,.slice none 0 0]) (t:=67) ?hr ?_;(case hd=>rfl);(case hg=>rfl);(case hr=>first|(go_simp;done)|(go_simp;rfl))
      intro gb125 hg w50 hbox hb
      have n0_:=zA (Kd.z5 (by (with_reducible repeat (first|apply Kd.z4|apply Kd.z7|apply Kd.z6));exact HO118.out) hb)
      have n1_:=zA (Kd.z5 (by (with_reducible repeat (first|apply Kd.z4|apply Kd.z7|apply Kd.z6));exact HO121.out) hb)
      have n2_:=zA (Kd.z5 (by (with_reducible repeat (first|apply Kd.z4|apply Kd.z7|apply Kd.z6));exact HO124.out) hb)
      have n3_:=zA (zq13 (by (with_reducible repeat (first|refine zq6 ?_ _|refine zq8 ?_|refine zq5 ?_ _));exact BK112.out) hb)
      have n4_:=zA (zq13 (by (with_reducible repeat (first|refine zq6 ?_ _|refine zq8 ?_|refine zq5 ?_ _));exact BK113.out) hb)
      have n5_:=zA (zq11 (by repeat (first|(with_reducible first|exact HB.out|apply zq4|apply zq0|apply zq3|refine zq2 ?_ GE112.out|refine zq2 ?_ GE113.out)|exact HB.out)) hb)
      have n6_:=zA (hbox)
      have n7_:=zA ((by rw [hg];exact (zq14 (by repeat (first|(with_reducible first|exact HB.out|apply zq4|apply zq0|apply zq3|refine zq2 ?_ GE112.out|refine zq2 ?_ GE113.out)|exact HB.out))):w.heap.size≤gb125))
      have n8_:=zA ((by rw [hg];exact (zq14 (by repeat (first|(with_reducible first|exact HB.out|apply zq4|apply zq0|apply zq3|refine zq2 ?_ GE112.out|refine zq2 ?_ GE113.out)|exact HB.out))):w.heap.size≤gb125))
      have n9_:=zA ((by rw [hg];exact Nat.ne_of_lt (zq25 (by (with_reducible repeat (first|refine zq6 ?_ _|refine zq8 ?_|refine zq5 ?_ _));exact BK112.out)):gb112≠gb125))
      have n10_:=zA ((by rw [hg];exact Nat.ne_of_gt (zq25 (by (with_reducible repeat (first|refine zq6 ?_ _|refine zq8 ?_|refine zq5 ?_ _));exact BK112.out)):gb125≠gb112))
      have n11_:=zA ((by rw [hg];exact Nat.ne_of_lt (zq25 (by (with_reducible repeat (first|refine zq6 ?_ _|refine zq8 ?_|refine zq5 ?_ _));exact BK113.out)):gb113≠gb125))
      have n12_:=zA ((by rw [hg];exact Nat.ne_of_gt (zq25 (by (with_reducible repeat (first|refine zq6 ?_ _|refine zq8 ?_|refine zq5 ?_ _));exact BK113.out)):gb125≠gb113))
      clear HO118
      clear HO121
      clear HO124
      clear BK112
      clear BK113
      clear HB
      have HO118:=n0_
      have HO121:=n1_
      have HO124:=n2_
      have BK112:=n3_
      have BK113:=n4_
      have HB:=n5_
      have BK125:=n6_
      have GW125:=n7_
      have GE125:=n8_
      have NB112_125:=n9_
      have NB125_112:=n10_
      have NB113_125:=n11_
      have NB125_113:=n12_
      clear n0_ n1_ n2_ n3_ n4_ n5_ n6_ n7_ n8_ n9_ n10_ n11_ n12_
      clear hb hbox hg
      refine hK.out _ _ ⟨zq1 BK112.out 0,zq1 BK112.out 1,zq1 BK112.out 2,zq1 BK112.out 3⟩ (fun hHeld=>?_)
      clear hK K
      refine norm_ (a':=?_) ?_ ?_
      rotate_left
      ·show Act.put _ (some 5) _=_
       simp only [Act.put,zL0,zL1,zL2,i64_w,i32_w]
       rfl
      exact norm_ (by first|(simp only [putAll,Act.put,zL0,zL1,zL2];done)|(simp only [putAll,Act.put,zL0,zL1,zL2];rfl)) (hJ2_6_8 (.slice Ao49 t116.length co49,.slice Ao48 t119.length co48,.slice Ao47 y122.length co47,gb125) _ ⟨hHeld,(by (with_reducible repeat (first|apply Kd.z4|apply Kd.z7|apply Kd.z6));exact HO118.out),(by (with_reducible repeat (first|apply Kd.z4|apply Kd.z7|apply Kd.z6));exact HO121.out),(by (with_reducible repeat (first|apply Kd.z4|apply Kd.z7|apply Kd.z6));exact HO124.out),(by (with_reducible repeat (first|refine zq6 ?_ _|refine zq8 ?_|refine zq5 ?_ _));exact BK112.out),(by (with_reducible repeat (first|refine zq6 ?_ _|refine zq8 ?_|refine zq5 ?_ _));exact BK113.out),(by (with_reducible repeat (first|refine zq6 ?_ _|refine zq8 ?_|refine zq5 ?_ _));exact BK125.out),GW125.out,GE125.out,NB112_125.out,NB125_112.out,NB113_125.out,NB125_113.out,(by repeat (first|(with_reducible first|exact HB.out|apply zq4|apply zq0|apply zq3|refine zq2 ?_ GE112.out|refine zq2 ?_ GE113.out|refine zq2 ?_ GE125.out)|exact HB.out))⟩)
    rintro ⟨v117,v120,v123,gb125⟩ w47 ⟨hS_,h0_,h1_,h2_,h3_,h4_,h5_,h6_,h7_,h8_,h9_,h10_,h11_,h12_⟩
    have n0_:Aside0 (Kd.R k30 30 w47 w.heap.size (fun _=>True) v117 t116):=⟨h0_⟩
    have n1_:Aside0 (Kd.R Kd.string 9 w47 w.heap.size (fun _=>True) v120 t119):=⟨h1_⟩
    have n2_:Aside0 (Kd.R (Kd.int .i64) 3 w47 w.heap.size (fun _=>True) v123 y122):=⟨h2_⟩
    have n3_:Aside0 (w47.heap[gb112]?=some (.cells #[.string a1_0,.string a1_1,.slice A1_2 l1_2.length c1_2,.slice A1_3 l1_3.length c1_3] 33 (0,0))):=⟨h3_⟩
    have n4_:Aside0 (w47.heap[gb113]?=some (.cells #[.string bz0,.string bz0,.string bz0,.slice none 0 0,.slice none 0 0,.int .i64 0,.int .i64 0,.slice none 0 0] 67 (0,0))):=⟨h4_⟩
    have n5_:Aside0 (w47.heap[gb125]?=some (.cells #[.string bz0,.string bz0,.string bz0,.slice none 0 0,.slice none 0 0,.int .i64 0,.int .i64 0,.slice none 0 0] 67 (0,0))):=⟨h5_⟩
    have n6_:Aside0 (w.heap.size≤gb125):=⟨h6_⟩
    have n7_:Aside0 (w.heap.size≤gb125):=⟨h7_⟩
    have n8_:Aside0 (gb112≠gb125):=⟨h8_⟩
    have n9_:Aside0 (gb125≠gb112):=⟨h9_⟩
    have n10_:Aside0 (gb113≠gb125):=⟨h10_⟩
    have n11_:Aside0 (gb125≠gb113):=⟨h11_⟩
    have n12_:Aside0 (Below w.heap.size w w47):=⟨h12_⟩
    clear BK112
    clear BK113
    clear HB
    clear h0_ h1_ h2_ h3_ h4_ h5_ h6_ h7_ h8_ h9_ h10_ h11_ h12_
    have HO118:=n0_
    have HO121:=n1_
    have HO124:=n2_
    have BK112:=n3_
    have BK113:=n4_
    have BK125:=n5_
    have GW125:=n6_
    have GE125:=n7_
    have NB112_125:=n8_
    have NB125_112:=n9_
    have NB113_125:=n10_
    have NB125_113:=n11_
    have HB:=n12_
    clear n0_ n1_ n2_ n3_ n4_ n5_ n6_ n7_ n8_ n9_ n10_ n11_ n12_
    have hHeld:w47.cell? ⟨gb112,0,none⟩=some (.string a1_0)∧w47.cell? ⟨gb112,1,none⟩=some (.string a1_1)∧w47.cell? ⟨gb112,2,none⟩=some (.slice A1_2 l1_2.length c1_2)∧w47.cell? ⟨gb112,3,none⟩=some (.slice A1_3 l1_3.length c1_3):=hS_
    obtain ⟨Ao48,co48,eo48⟩:=Kd.z13 HO124.out
    (first|subst eo48|(injection eo48 with f1_ f2_ f3_;have f4_:=f1_.symm;have f5_:=f3_.symm;clear f1_ f2_ f3_;subst f4_;subst f5_))
    obtain ⟨Ao49,co49,eo49⟩:=Kd.z13 HO121.out
    (first|subst eo49|(injection eo49 with f1_ f2_ f3_;have f4_:=f1_.symm;have f5_:=f3_.symm;clear f1_ f2_ f3_;subst f4_;subst f5_))
    obtain ⟨Ao50,co50,eo50⟩:=Kd.z13 HO118.out
    (first|subst eo50|(injection eo50 with f1_ f2_ f3_;have f4_:=f1_.symm;have f5_:=f3_.symm;clear f1_ f2_ f3_;subst f4_;subst f5_))
    refine norm_ (a':=?_) ?_ ?_
    rotate_left
    ·simp only [putAll,Act.put,zL0,zL1,zL2]
     rfl
    refine one_ (i:=9) (N:=none) #[true,true,true,true,true,true,true,true,true,true] rfl rfl (one_of HT_.out (by kernel_rfl)) (by decide) (fun K hK=>?_)
    have hs51:w47.cell? ⟨gb125,0,none⟩=some (.string bz0):=zq1 BK125.out 0
    have hfs51:=zq7 BK125.out 0
    have hns51_0:=NB112_125.out
    have hns51_1:=NB113_125.out
    have hms51_0:=NB125_112.out
    have hms51_1:=NB125_113.out
    have hs52:w47.cell? ⟨gb125,1,none⟩=some (.string bz0):=zq1 BK125.out 1
    have hfs52:=zq7 BK125.out 1
    have hns52_0:=NB112_125.out
    have hns52_1:=NB113_125.out
    have hms52_0:=NB125_112.out
    have hms52_1:=NB125_113.out
    have hs53:w47.cell? ⟨gb125,2,none⟩=some (.string bz0):=zq1 BK125.out 2
    have hfs53:=zq7 BK125.out 2
    have hns53_0:=NB112_125.out
    have hns53_1:=NB113_125.out
    have hms53_0:=NB125_112.out
    have hms53_1:=NB125_113.out
    have hs54:w47.cell? ⟨gb125,3,none⟩=some (.slice none 0 0):=zq1 BK125.out 3
    have hfs54:=zq7 BK125.out 3
    have hns54_0:=NB112_125.out
    have hns54_1:=NB113_125.out
    have hms54_0:=NB125_112.out
    have hms54_1:=NB125_113.out
    have hs55:w47.cell? ⟨gb125,4,none⟩=some (.slice none 0 0):=zq1 BK125.out 4
    have hfs55:=zq7 BK125.out 4
    have hns55_0:=NB112_125.out
    have hns55_1:=NB113_125.out
    have hms55_0:=NB125_112.out
    have hms55_1:=NB125_113.out
    have hs56:w47.cell? ⟨gb125,5,none⟩=some (.int .i64 0):=zq1 BK125.out 5
    have hfs56:=zq7 BK125.out 5
    have hns56_0:=NB112_125.out
    have hns56_1:=NB113_125.out
    have hms56_0:=NB125_112.out
    have hms56_1:=NB125_113.out
    have hs57:w47.cell? ⟨gb125,6,none⟩=some (.int .i64 0):=zq1 BK125.out 6
    have hfs57:=zq7 BK125.out 6
    have hns57_0:=NB112_125.out
    have hns57_1:=NB113_125.out
    have hms57_0:=NB125_112.out
    have hms57_1:=NB125_113.out
    have hs58:w47.cell? ⟨gb125,7,none⟩=some (.slice none 0 0):=zq1 BK125.out 7
    have hfs58:=zq7 BK125.out 7
    have hns58_0:=NB112_125.out
    have hns58_1:=NB113_125.out
    have hms58_0:=NB125_112.out
    have hms58_1:=NB125_113.out
    refine skip_ (w1:=?_) (by rfl) rfl ?_ ?_
    rotate_left
    ·go_simp
     rfl
    refine hK.out _ _ ⟨((zq20 (p:=⟨gb125,_,none⟩) NB112_125.out _).trans (((zq20 (p:=⟨gb125,_,none⟩) NB112_125.out _).trans (((zq20 (p:=⟨gb125,_,none⟩) NB112_125.out _).trans (((zq20 (p:=⟨gb125,_,none⟩) NB112_125.out _).trans (((zq20 (p:=⟨gb125,_,none⟩) NB112_125.out _).trans (((zq20 (p:=⟨gb125,_,none⟩) NB112_125.out _).trans (((zq20 (p:=⟨gb125,_,none⟩) NB112_125.out _).trans (((zq20 (p:=⟨gb125,_,none⟩) NB112_125.out _).trans (hHeld.1)))))))))))))))),((zq20 (p:=⟨gb125,_,none⟩) NB112_125.out _).trans (((zq20 (p:=⟨gb125,_,none⟩) NB112_125.out _).trans (((zq20 (p:=⟨gb125,_,none⟩) NB112_125.out _).trans (((zq20 (p:=⟨gb125,_,none⟩) NB112_125.out _).trans (((zq20 (p:=⟨gb125,_,none⟩) NB112_125.out _).trans (((zq20 (p:=⟨gb125,_,none⟩) NB112_125.out _).trans (((zq20 (p:=⟨gb125,_,none⟩) NB112_125.out _).trans (((zq20 (p:=⟨gb125,_,none⟩) NB112_125.out _).trans (hHeld.2.1)))))))))))))))),((zq20 (p:=⟨gb125,_,none⟩) NB112_125.out _).trans (((zq20 (p:=⟨gb125,_,none⟩) NB112_125.out _).trans (((zq20 (p:=⟨gb125,_,none⟩) NB112_125.out _).trans (((zq20 (p:=⟨gb125,_,none⟩) NB112_125.out _).trans (((zq20 (p:=⟨gb125,_,none⟩) NB112_125.out _).trans (((zq20 (p:=⟨gb125,_,none⟩) NB112_125.out _).trans (((zq20 (p:=⟨gb125,_,none⟩) NB112_125.out _).trans (((zq20 (p:=⟨gb125,_,none⟩) NB112_125.out _).trans (hHeld.2.2.1)))))))))))))))),((zq20 (p:=⟨gb125,_,none⟩) NB112_125.out _).trans (((zq20 (p:=⟨gb125,_,none⟩) NB112_125.out _).trans (((zq20 (p:=⟨gb125,_,none⟩) NB112_125.out _).trans (((zq20 (p:=⟨gb125,_,none⟩) NB112_125.out _).trans (((zq20 (p:=⟨gb125,_,none⟩) NB112_125.out _).trans (((zq20 (p:=⟨gb125,_,none⟩) NB112_125.out _).trans (((zq20 (p:=⟨gb125,_,none⟩) NB112_125.out _).trans (((zq20 (p:=⟨gb125,_,none⟩) NB112_125.out _).trans (hHeld.2.2.2))))))))))))))))⟩ (fun hHeld=>?_)
    clear hK K
    refine done_ (done_of HT_.out (by kernel_rfl)) ?_
    have hnb59:=NB125_112.out
    have hnc59:=NB112_125.out
    have hnb60:=NB125_113.out
    have hnc60:=NB113_125.out
    have hcz61_0:w47.cell? ⟨gb125,0,none⟩=some (.string bz0):=zq1 BK125.out 0
    have hcz61_1:w47.cell? ⟨gb125,1,none⟩=some (.string bz0):=zq1 BK125.out 1
    have hcz61_2:w47.cell? ⟨gb125,2,none⟩=some (.string bz0):=zq1 BK125.out 2
    have hcz61_3:w47.cell? ⟨gb125,3,none⟩=some (.slice none 0 0):=zq1 BK125.out 3
    have hcz61_4:w47.cell? ⟨gb125,4,none⟩=some (.slice none 0 0):=zq1 BK125.out 4
    have hcz61_5:w47.cell? ⟨gb125,5,none⟩=some (.int .i64 0):=zq1 BK125.out 5
    have hcz61_6:w47.cell? ⟨gb125,6,none⟩=some (.int .i64 0):=zq1 BK125.out 6
    have hcz61_7:w47.cell? ⟨gb125,7,none⟩=some (.slice none 0 0):=zq1 BK125.out 7
    have hfz61_0:=zq7 BK125.out 0
    have hfz61_1:=zq7 BK125.out 1
    have hfz61_2:=zq7 BK125.out 2
    have hfz61_3:=zq7 BK125.out 3
    have hfz61_4:=zq7 BK125.out 4
    have hfz61_5:=zq7 BK125.out 5
    have hfz61_6:=zq7 BK125.out 6
    have hfz61_7:=zq7 BK125.out 7
    try go_wp2_with (first|((with_reducible refine zq19 (f:=32) rfl ?_);refine goesL_ (some 15) rfl rfl Tryd.func32 (by kernel_rfl) rfl #[.agg #[.string a0,.string t114,.string t115,.slice Ao50 t116.length co50,.slice Ao49 t119.length co49,.int .i64 0,.int .i64 0,.slice Ao48 y122.length co48]] rfl (by (try simp only [zL3,zL4,zL5]);first|done|rfl|(simp only [zL6,zL7];rfl)) ?_;(with_reducible refine (impl_CliOk.calls k a0 t114 t115 _ _ t116 _ _ t119 0 0 _ _ y122 false _ ?side1 ?side2 ?side3 ?side4 ?side5 ?side6 ?side7 A6.out).mono ?_);(case side1=>refine (Kd.z12 (e:=30) (base:=w.heap.size) (ok:=fun k_=>True) (n:=t116.length) (c:=co50) ?_).2.2;exact (by (with_reducible repeat (first|apply Kd.z4|apply Kd.z7|apply Kd.z6));exact (Kd.z11 (Kd.z8 (p:=⟨gb125,7,none⟩) (Kd.z8 (p:=⟨gb125,6,none⟩) (Kd.z8 (p:=⟨gb125,5,none⟩) (Kd.z8 (p:=⟨gb125,4,none⟩) (Kd.z8 (p:=⟨gb125,3,none⟩) (Kd.z8 (p:=⟨gb125,2,none⟩) (Kd.z8 (p:=⟨gb125,1,none⟩) (Kd.z8 (p:=⟨gb125,0,none⟩) (Kd.z14 HO118.out BK125.out (by decide)) (fun _ hk=>hk.2) (.string a0)) (fun _ hk=>hk.2) (.string t114)) (fun _ hk=>hk.2) (.string t115)) (fun _ hk=>hk.2) (.slice Ao50 t116.length co50)) (fun _ hk=>hk.2) (.slice Ao49 t119.length co49)) (fun _ hk=>hk.2) (.int .i64 0)) (fun _ hk=>hk.2) (.int .i64 0)) (fun _ hk=>hk.2) (.slice Ao48 y122.length co48)) (fun _ h_=>h_.1))));(case side2=>exact (Kd.z12 HO118.out).2.1);(case side3=>refine (Kd.z12 (e:=9) (base:=w.heap.size) (ok:=fun k_=>True) (n:=t119.length) (c:=co49) ?_).2.2;exact (by (with_reducible repeat (first|apply Kd.z4|apply Kd.z7|apply Kd.z6));exact (Kd.z11 (Kd.z8 (p:=⟨gb125,7,none⟩) (Kd.z8 (p:=⟨gb125,6,none⟩) (Kd.z8 (p:=⟨gb125,5,none⟩) (Kd.z8 (p:=⟨gb125,4,none⟩) (Kd.z8 (p:=⟨gb125,3,none⟩) (Kd.z8 (p:=⟨gb125,2,none⟩) (Kd.z8 (p:=⟨gb125,1,none⟩) (Kd.z8 (p:=⟨gb125,0,none⟩) (Kd.z14 HO121.out BK125.out (by decide)) (fun _ hk=>hk.2) (.string a0)) (fun _ hk=>hk.2) (.string t114)) (fun _ hk=>hk.2) (.string t115)) (fun _ hk=>hk.2) (.slice Ao50 t116.length co50)) (fun _ hk=>hk.2) (.slice Ao49 t119.length co49)) (fun _ hk=>hk.2) (.int .i64 0)) (fun _ hk=>hk.2) (.int .i64 0)) (fun _ hk=>hk.2) (.slice Ao48 y122.length co48)) (fun _ h_=>h_.1))));(case side4=>exact (Kd.z12 HO121.out).2.1);(case side5=>refine (Kd.z12 (e:=3) (base:=w.heap.size) (ok:=fun k_=>True) (n:=y122.length) (c:=co48) ?_).2.2;exact (by (with_reducible repeat (first|apply Kd.z4|apply Kd.z7|apply Kd.z6));exact (Kd.z11 (Kd.z8 (p:=⟨gb125,7,none⟩) (Kd.z8 (p:=⟨gb125,6,none⟩) (Kd.z8 (p:=⟨gb125,5,none⟩) (Kd.z8 (p:=⟨gb125,4,none⟩) (Kd.z8 (p:=⟨gb125,3,none⟩) (Kd.z8 (p:=⟨gb125,2,none⟩) (Kd.z8 (p:=⟨gb125,1,none⟩) (Kd.z8 (p:=⟨gb125,0,none⟩) (Kd.z14 HO124.out BK125.out (by decide)) (fun _ hk=>hk.2) (.string a0)) (fun _ hk=>hk.2) (.string t114)) (fun _ hk=>hk.2) (.string t115)) (fun _ hk=>hk.2) (.slice Ao50 t116.length co50)) (fun _ hk=>hk.2) (.slice Ao49 t119.length co49)) (fun _ hk=>hk.2) (.int .i64 0)) (fun _ hk=>hk.2) (.int .i64 0)) (fun _ hk=>hk.2) (.slice Ao48 y122.length co48)) (fun _ h_=>h_.1))));(case side6=>exact (Kd.z12 HO124.out).2.1);(case side7=>first|(with_reducible exact HG.out)|((with_reducible repeat (first|exact HG.out|apply GOK.drewN|apply GOK.drew));done)|exact GOK.below HG.out (by repeat (first|(with_reducible first|exact HB.out|apply zq4|apply zq0|apply zq3|refine zq2 ?_ GE112.out|refine zq2 ?_ GE113.out|refine zq2 ?_ GE125.out)|exact HB.out)));rintro e w62 ⟨rfl,hb⟩;refine ⟨_,rfl,?_⟩;have n0_:=zA (Kd.z5 (by (with_reducible repeat (first|apply Kd.z4|apply Kd.z7|apply Kd.z6));exact (Kd.z11 (Kd.z8 (p:=⟨gb125,7,none⟩) (Kd.z8 (p:=⟨gb125,6,none⟩) (Kd.z8 (p:=⟨gb125,5,none⟩) (Kd.z8 (p:=⟨gb125,4,none⟩) (Kd.z8 (p:=⟨gb125,3,none⟩) (Kd.z8 (p:=⟨gb125,2,none⟩) (Kd.z8 (p:=⟨gb125,1,none⟩) (Kd.z8 (p:=⟨gb125,0,none⟩) (Kd.z14 HO118.out BK125.out (by decide)) (fun _ hk=>hk.2) (.string a0)) (fun _ hk=>hk.2) (.string t114)) (fun _ hk=>hk.2) (.string t115)) (fun _ hk=>hk.2) (.slice Ao50 t116.length co50)) (fun _ hk=>hk.2) (.slice Ao49 t119.length co49)) (fun _ hk=>hk.2) (.int .i64 0)) (fun _ hk=>hk.2) (.int .i64 0)) (fun _ hk=>hk.2) (.slice Ao48 y122.length co48)) (fun _ h_=>h_.1))) hb);have n1_:=zA (Kd.z5 (by (with_reducible repeat (first|apply Kd.z4|apply Kd.z7|apply Kd.z6));exact (Kd.z11 (Kd.z8 (p:=⟨gb125,7,none⟩) (Kd.z8 (p:=⟨gb125,6,none⟩) (Kd.z8 (p:=⟨gb125,5,none⟩) (Kd.z8 (p:=⟨gb125,4,none⟩) (Kd.z8 (p:=⟨gb125,3,none⟩) (Kd.z8 (p:=⟨gb125,2,none⟩) (Kd.z8 (p:=⟨gb125,1,none⟩) (Kd.z8 (p:=⟨gb125,0,none⟩) (Kd.z14 HO121.out BK125.out (by decide)) (fun _ hk=>hk.2) (.string a0)) (fun _ hk=>hk.2) (.string t114)) (fun _ hk=>hk.2) (.string t115)) (fun _ hk=>hk.2) (.slice Ao50 t116.length co50)) (fun _ hk=>hk.2) (.slice Ao49 t119.length co49)) (fun _ hk=>hk.2) (.int .i64 0)) (fun _ hk=>hk.2) (.int .i64 0)) (fun _ hk=>hk.2) (.slice Ao48 y122.length co48)) (fun _ h_=>h_.1))) hb);have n2_:=zA (Kd.z5 (by (with_reducible repeat (first|apply Kd.z4|apply Kd.z7|apply Kd.z6));exact (Kd.z11 (Kd.z8 (p:=⟨gb125,7,none⟩) (Kd.z8 (p:=⟨gb125,6,none⟩) (Kd.z8 (p:=⟨gb125,5,none⟩) (Kd.z8 (p:=⟨gb125,4,none⟩) (Kd.z8 (p:=⟨gb125,3,none⟩) (Kd.z8 (p:=⟨gb125,2,none⟩) (Kd.z8 (p:=⟨gb125,1,none⟩) (Kd.z8 (p:=⟨gb125,0,none⟩) (Kd.z14 HO124.out BK125.out (by decide)) (fun _ hk=>hk.2) (.string a0)) (fun _ hk=>hk.2) (.string t114)) (fun _ hk=>hk.2) (.string t115)) (fun _ hk=>hk.2) (.slice Ao50 t116.length co50)) (fun _ hk=>hk.2) (.slice Ao49 t119.length co49)) (fun _ hk=>hk.2) (.int .i64 0)) (fun _ hk=>hk.2) (.int .i64 0)) (fun _ hk=>hk.2) (.slice Ao48 y122.length co48)) (fun _ h_=>h_.1))) hb);have n3_:=zA (zq13 (g:=gb112) (o:=.cells #[.string a1_0,.string a1_1,.slice A1_2 l1_2.length c1_2,.slice A1_3 l1_3.length c1_3] 33 (0,0)) (by (with_reducible repeat (first|refine zq6 ?_ _|refine zq8 ?_|refine zq5 ?_ _));refine zq24 ?_ NB112_125.out _;(with_reducible repeat (first|refine zq6 ?_ _|refine zq8 ?_|refine zq5 ?_ _));refine zq24 ?_ NB112_125.out _;(with_reducible repeat (first|refine zq6 ?_ _|refine zq8 ?_|refine zq5 ?_ _));refine zq24 ?_ NB112_125.out _;(with_reducible repeat (first|refine zq6 ?_ _|refine zq8 ?_|refine zq5 ?_ _));refine zq24 ?_ NB112_125.out _;(with_reducible repeat (first|refine zq6 ?_ _|refine zq8 ?_|refine zq5 ?_ _));refine zq24 ?_ NB112_125.out _;(with_reducible repeat (first|refine zq6 ?_ _|refine zq8 ?_|refine zq5 ?_ _));refine zq24 ?_ NB112_125.out _;(with_reducible repeat (first|refine zq6 ?_ _|refine zq8 ?_|refine zq5 ?_ _));refine zq24 ?_ NB112_125.out _;(with_reducible repeat (first|refine zq6 ?_ _|refine zq8 ?_|refine zq5 ?_ _));refine zq24 ?_ NB112_125.out _;(with_reducible repeat (first|refine zq6 ?_ _|refine zq8 ?_|refine zq5 ?_ _));exact BK112.out) hb);have n4_:=zA (zq13 (g:=gb113) (o:=.cells #[.string bz0,.string bz0,.string bz0,.slice none 0 0,.slice none 0 0,.int .i64 0,.int .i64 0,.slice none 0 0] 67 (0,0)) (by (with_reducible repeat (first|refine zq6 ?_ _|refine zq8 ?_|refine zq5 ?_ _));refine zq24 ?_ NB113_125.out _;(with_reducible repeat (first|refine zq6 ?_ _|refine zq8 ?_|refine zq5 ?_ _));refine zq24 ?_ NB113_125.out _;(with_reducible repeat (first|refine zq6 ?_ _|refine zq8 ?_|refine zq5 ?_ _));refine zq24 ?_ NB113_125.out _;(with_reducible repeat (first|refine zq6 ?_ _|refine zq8 ?_|refine zq5 ?_ _));refine zq24 ?_ NB113_125.out _;(with_reducible repeat (first|refine zq6 ?_ _|refine zq8 ?_|refine zq5 ?_ _));refine zq24 ?_ NB113_125.out _;(with_reducible repeat (first|refine zq6 ?_ _|refine zq8 ?_|refine zq5 ?_ _));refine zq24 ?_ NB113_125.out _;(with_reducible repeat (first|refine zq6 ?_ _|refine zq8 ?_|refine zq5 ?_ _));refine zq24 ?_ NB113_125.out _;(with_reducible repeat (first|refine zq6 ?_ _|refine zq8 ?_|refine zq5 ?_ _));refine zq24 ?_ NB113_125.out _;(with_reducible repeat (first|refine zq6 ?_ _|refine zq8 ?_|refine zq5 ?_ _));exact BK113.out) hb);have n5_:=zA (zq13 (g:=gb125) (o:=.cells #[.string a0,.string t114,.string t115,.slice Ao50 t116.length co50,.slice Ao49 t119.length co49,.int .i64 0,.int .i64 0,.slice Ao48 y122.length co48] 67 (0,0)) (by (with_reducible repeat (first|refine zq6 ?_ _|refine zq8 ?_|refine zq5 ?_ _));refine zq18 (cs:=#[.string a0,.string t114,.string t115,.slice Ao50 t116.length co50,.slice Ao49 t119.length co49,.int .i64 0,.int .i64 0,.slice none 0 0]) ?_ 7 _ rfl;(with_reducible repeat (first|refine zq6 ?_ _|refine zq8 ?_|refine zq5 ?_ _));refine zq18 (cs:=#[.string a0,.string t114,.string t115,.slice Ao50 t116.length co50,.slice Ao49 t119.length co49,.int .i64 0,.int .i64 0,.slice none 0 0]) ?_ 6 _ rfl;(with_reducible repeat (first|refine zq6 ?_ _|refine zq8 ?_|refine zq5 ?_ _));refine zq18 (cs:=#[.string a0,.string t114,.string t115,.slice Ao50 t116.length co50,.slice Ao49 t119.length co49,.int .i64 0,.int .i64 0,.slice none 0 0]) ?_ 5 _ rfl;(with_reducible repeat (first|refine zq6 ?_ _|refine zq8 ?_|refine zq5 ?_ _));refine zq18 (cs:=#[.string a0,.string t114,.string t115,.slice Ao50 t116.length co50,.slice none 0 0,.int .i64 0,.int .i64 0,.slice none 0 0]) ?_ 4 _ rfl;(with_reducible repeat (first|refine zq6 ?_ _|refine zq8 ?_|refine zq5 ?_ _));refine zq18 (cs:=#[.string a0,.string t114,.string t115,.slice none 0 0,.slice none 0 0,.int .i64 0,.int .i64 0,.slice none 0 0]) ?_ 3 _ rfl;(with_reducible repeat (first|refine zq6 ?_ _|refine zq8 ?_|refine zq5 ?_ _));refine zq18 (cs:=#[.string a0,.string t114,.string bz0,.slice none 0 0,.slice none 0 0,.int .i64 0,.int .i64 0,.slice none 0 0]) ?_ 2 _ rfl;(with_reducible repeat (first|refine zq6 ?_ _|refine zq8 ?_|refine zq5 ?_ _));refine zq18 (cs:=#[.string a0,.string bz0,.string bz0,.slice none 0 0,.slice none 0 0,.int .i64 0,.int .i64 0,.slice none 0 0]) ?_ 1 _ rfl;(with_reducible repeat (first|refine zq6 ?_ _|refine zq8 ?_|refine zq5 ?_ _));refine zq18 (cs:=#[.string bz0,.string bz0,.string bz0,.slice none 0 0,.slice none 0 0,.int .i64 0,.int .i64 0,.slice none 0 0]) ?_ 0 _ rfl;(with_reducible repeat (first|refine zq6 ?_ _|refine zq8 ?_|refine zq5 ?_ _));exact BK125.out) hb);have n6_:=zA (zq11 (by repeat (first|(with_reducible first|exact HB.out|apply zq4|apply zq0|apply zq3|refine zq2 ?_ GE112.out|refine zq2 ?_ GE113.out|refine zq2 ?_ GE125.out)|exact HB.out)) hb);clear HO118;clear HO121;clear HO124;clear BK112;clear BK113;clear BK125;clear HB;have HO118:=n0_;have HO121:=n1_;have HO124:=n2_;have BK112:=n3_;have BK113:=n4_;have BK125:=n5_;have HB:=n6_;clear n0_ n1_ n2_ n3_ n4_ n5_ n6_;(try clear hb);(try clear hk);have hnb63:=NB113_112.out;have hnc63:=NB112_113.out;have hcz64_0:w62.cell? ⟨gb113,0,none⟩=some (.string bz0):=zq1 BK113.out 0;have hcz64_1:w62.cell? ⟨gb113,1,none⟩=some (.string bz0):=zq1 BK113.out 1;have hcz64_2:w62.cell? ⟨gb113,2,none⟩=some (.string bz0):=zq1 BK113.out 2;have hcz64_3:w62.cell? ⟨gb113,3,none⟩=some (.slice none 0 0):=zq1 BK113.out 3;have hcz64_4:w62.cell? ⟨gb113,4,none⟩=some (.slice none 0 0):=zq1 BK113.out 4;have hcz64_5:w62.cell? ⟨gb113,5,none⟩=some (.int .i64 0):=zq1 BK113.out 5;have hcz64_6:w62.cell? ⟨gb113,6,none⟩=some (.int .i64 0):=zq1 BK113.out 6;have hcz64_7:w62.cell? ⟨gb113,7,none⟩=some (.slice none 0 0):=zq1 BK113.out 7;have hfz64_0:=zq7 BK113.out 0;have hfz64_1:=zq7 BK113.out 1;have hfz64_2:=zq7 BK113.out 2;have hfz64_3:=zq7 BK113.out 3;have hfz64_4:=zq7 BK113.out 4;have hfz64_5:=zq7 BK113.out 5;have hfz64_6:=zq7 BK113.out 6;have hfz64_7:=zq7 BK113.out 7))
    refine bodyPost_ret (results_cell_row rfl _ _ gb113 67 #[.string bz0,.string bz0,.string bz0,.slice none 0 0,.slice none 0 0,.int .i64 0,.int .i64 0,.slice none 0 0] (0,0) _ rfl (by (with_reducible repeat (first|refine zq6 ?_ _|refine zq8 ?_|refine zq5 ?_ _));refine zq18 (cs:=#[.string bz0,.string bz0,.string bz0,.slice none 0 0,.slice none 0 0,.int .i64 0,.int .i64 0,.slice none 0 0]) ?_ 7 _ rfl;(with_reducible repeat (first|refine zq6 ?_ _|refine zq8 ?_|refine zq5 ?_ _));refine zq18 (cs:=#[.string bz0,.string bz0,.string bz0,.slice none 0 0,.slice none 0 0,.int .i64 0,.int .i64 0,.slice none 0 0]) ?_ 6 _ rfl;(with_reducible repeat (first|refine zq6 ?_ _|refine zq8 ?_|refine zq5 ?_ _));refine zq18 (cs:=#[.string bz0,.string bz0,.string bz0,.slice none 0 0,.slice none 0 0,.int .i64 0,.int .i64 0,.slice none 0 0]) ?_ 5 _ rfl;(with_reducible repeat (first|refine zq6 ?_ _|refine zq8 ?_|refine zq5 ?_ _));refine zq18 (cs:=#[.string bz0,.string bz0,.string bz0,.slice none 0 0,.slice none 0 0,.int .i64 0,.int .i64 0,.slice none 0 0]) ?_ 4 _ rfl;(with_reducible repeat (first|refine zq6 ?_ _|refine zq8 ?_|refine zq5 ?_ _));refine zq18 (cs:=#[.string bz0,.string bz0,.string bz0,.slice none 0 0,.slice none 0 0,.int .i64 0,.int .i64 0,.slice none 0 0]) ?_ 3 _ rfl;(with_reducible repeat (first|refine zq6 ?_ _|refine zq8 ?_|refine zq5 ?_ _));refine zq18 (cs:=#[.string bz0,.string bz0,.string bz0,.slice none 0 0,.slice none 0 0,.int .i64 0,.int .i64 0,.slice none 0 0]) ?_ 2 _ rfl;(with_reducible repeat (first|refine zq6 ?_ _|refine zq8 ?_|refine zq5 ?_ _));refine zq18 (cs:=#[.string bz0,.string bz0,.string bz0,.slice none 0 0,.slice none 0 0,.int .i64 0,.int .i64 0,.slice none 0 0]) ?_ 1 _ rfl;(with_reducible repeat (first|refine zq6 ?_ _|refine zq8 ?_|refine zq5 ?_ _));refine zq18 (cs:=#[.string bz0,.string bz0,.string bz0,.slice none 0 0,.slice none 0 0,.int .i64 0,.int .i64 0,.slice none 0 0]) ?_ 0 _ rfl;(with_reducible repeat (first|refine zq6 ?_ _|refine zq8 ?_|refine zq5 ?_ _));exact BK113.out) Tryd.underlying67 rfl (by kernel_rfl)) rfl ?_
    exact ⟨_,_,_,by first|rfl|(simp [zq16,zq17]<;>rfl)|(simp [*,zq16,zq17]<;>rfl),by first|exact Kd.R_nil _ _ _ _ _|exact Kd.N_nil _ _ _ _ _|exact Kd.V_nil _ _ _ _ _|exact Kd.Q_nil _ _ _ _ _|exact Kd.S_nil _ _ _ _ _,by first|exact Kd.R_nil _ _ _ _ _|exact Kd.N_nil _ _ _ _ _|exact Kd.V_nil _ _ _ _ _|exact Kd.Q_nil _ _ _ _ _|exact Kd.S_nil _ _ _ _ _,by first|exact Kd.R_nil _ _ _ _ _|exact Kd.N_nil _ _ _ _ _|exact Kd.V_nil _ _ _ _ _|exact Kd.Q_nil _ _ _ _ _|exact Kd.S_nil _ _ _ _ _,by repeat (first|(with_reducible first|exact HB.out|apply zq4|apply zq0|apply zq3|refine zq2 ?_ GE112.out|refine zq2 ?_ GE113.out|refine zq2 ?_ GE125.out)|exact HB.out)⟩
  ·rw [if_neg c5] at H
   exact absurd H (by simp)
 ·rw [if_neg c4] at H
  exact absurd H (by simp)
end Go.Proofs.YthkibaldmjfmmaaDoor.Q
