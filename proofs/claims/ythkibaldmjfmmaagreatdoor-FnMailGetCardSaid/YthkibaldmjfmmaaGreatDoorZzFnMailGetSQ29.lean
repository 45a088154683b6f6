/- Of a text of ours what this claim needs. -/
import Derived.Test.YthkibaldmjfmmaaGreatDoorZzFnMailGetSQ0
import Derived.Test.YthkibaldmjfmmaaGreatDoorZzFnMailGetSQ2
import Derived.Test.YthkibaldmjfmmaaGreatDoorZzFnMailGetSQ4
import Derived.Test.YthkibaldmjfmmaaGreatDoorZzFnMailGetSQ14
namespace Go.Proofs.YthkibaldmjfmmaaGreatDoor.Q
open Go.RowKit Go.Proofs.YthkibaldmjfmmaaGreatDoorW.PrintWords Go.Proofs.YthkibaldmjfmmaaGreatDoorW.PrintLast Go.Proofs.YthkibaldmjfmmaaGreatDoorW.PrintMore
attribute [local go_sem] max2_int min2_int max_two min_two max_three min_three max_four min_four
set_option linter.unusedVariables false
set_option linter.unusedSimpArgs false
def spec_l20Bent.f (k:Nat) (s0_0:List Int) (s0_1:Int) (a1:ByteArray):Option (ByteArray × Int):=(spec_l20Rd_pick.f k s0_0 s0_1 (wrap64 ((a1.size:Int)+1))).bind fun bt176=>((spec_l20Rd_pick.f k s0_0 bt176.2 5).bind fun bt178=>(if bt178.1=0 then (if bt176.1 < (a1.size:Int) then (if 0≤bt176.1 then (if bt176.1≤(a1.size:Int) then ((spec_l20Rd_of.f k s0_0 bt178.2 (([(⟨#[46]⟩:ByteArray),(⟨#[13]⟩:ByteArray),(⟨#[10]⟩:ByteArray),(⟨#[60]⟩:ByteArray),(⟨#[62]⟩:ByteArray),(⟨#[48]⟩:ByteArray),(⟨#[32]⟩:ByteArray),(⟨#[64]⟩:ByteArray)]:List ByteArray))).bind fun bt183=>(if (a1.extract 0 (bt176.1:Int).toNat).size+bt183.1.size≤9223372036854775807 then (if 0≤(wrap64 (bt176.1+1)) then (if (wrap64 (bt176.1+1))≤(a1.size:Int) then (if ((a1.extract 0 (bt176.1:Int).toNat)++bt183.1).size+(a1.extract ((wrap64 (bt176.1+1)):Int).toNat a1.size).size≤9223372036854775807 then (some (((a1.extract 0 (bt176.1:Int).toNat)++bt183.1)++(a1.extract ((wrap64 (bt176.1+1)):Int).toNat a1.size),bt183.2)) else (none)) else (none)) else (none)) else (none))) else (none)) else (none)) else (some (a1,bt178.2))) else (if bt178.1=1 then (if 0≤bt176.1 then (if bt176.1≤(a1.size:Int) then (some (a1.extract 0 (bt176.1:Int).toNat,bt178.2)) else (none)) else (none)) else (if bt178.1=2 then ((spec_l20Rd_of.f k s0_0 bt178.2 (([(⟨#[46]⟩:ByteArray),(⟨#[13,10]⟩:ByteArray),(⟨#[32]⟩:ByteArray),(⟨#[46,13,10]⟩:ByteArray)]:List ByteArray))).bind fun bt188=>(if a1.size+bt188.1.size≤9223372036854775807 then (some (a1++bt188.1,bt188.2)) else (none))) else (some (a1,bt178.2))))))
def spec_l20Bent.T5:Bool × List (List Nat × List Nat):=(true,[([],[]),([],[]),([0,1],[0,1]),([],[]),([],[]),([3,4],[3,4]),([2,5],[2,5]),([],[]),([],[]),([8],[8]),([7,9],[7,9]),([6,10],[6,10]),([11,5,0,1,2,3,4,5,6,7,8,9,10,11],[11])])
def spec_l20Bent.B5:List Nat:=[0,0,3,0,0,24,63,0,0,256,896,2047,4095]
theorem spec_l20Bent.tab5:rtab .any (opsOf Tryz.f48 5)=spec_l20Bent.T5:=by kernel_rfl
theorem spec_l20Bent.bits5:waitsOk spec_l20Bent.T5.2 spec_l20Bent.B5=true:=by kernel_rfl
set_option maxHeartbeats 8000000 in
set_option maxRecDepth 100000 in
theorem spec_l20Bent.calls (k:Nat) (g:Nat) (s0_0:List Int) (s0_1:Int) (a1:ByteArray) (r1:ByteArray) (r2:Int) (w0 w:World) (hI:IsS69 w0 w g s0_0 s0_1) (hB:Below w0.heap.size w0 w) (h:spec_l20Bent.f k s0_0 s0_1 a1=some (r1,r2)) :
 Calls Tryz.prog 48 #[.pointer (some ⟨g,0,none⟩),.string a1] w fun e w'=>e=.returned (.string r1)∧IsS69 w0 w' g s0_0 r2∧Below w0.heap.size w0 w'∧KeepBut w w' g none:=by
 have HI0:=Aside0.mk hI
 have HK:=Aside0.mk (KeepBut.refl w g none)
 have HL:=Aside0.mk hB.size
 clear hI
 have HW0:=Aside0.mk hB.size
 have HB:=Aside0.mk hB
 clear hB
 have H:((spec_l20Rd_pick.f k s0_0 s0_1 (wrap64 ((a1.size:Int)+1))).bind fun bt176=>((spec_l20Rd_pick.f k s0_0 bt176.2 5).bind fun bt178=>(if bt178.1=0 then (if bt176.1 < (a1.size:Int) then (if 0≤bt176.1 then (if bt176.1≤(a1.size:Int) then ((spec_l20Rd_of.f k s0_0 bt178.2 (([bz4,bz9,bz10,bz1,bz5,bz11,bz6,bz2]:List ByteArray))).bind fun bt183=>(if (a1.extract 0 (bt176.1:Int).toNat).size+bt183.1.size≤9223372036854775807 then (if 0≤(wrap64 (bt176.1+1)) then (if (wrap64 (bt176.1+1))≤(a1.size:Int) then (if ((a1.extract 0 (bt176.1:Int).toNat)++bt183.1).size+(a1.extract ((wrap64 (bt176.1+1)):Int).toNat a1.size).size≤9223372036854775807 then (some (((a1.extract 0 (bt176.1:Int).toNat)++bt183.1)++(a1.extract ((wrap64 (bt176.1+1)):Int).toNat a1.size),bt183.2)) else (none)) else (none)) else (none)) else (none))) else (none)) else (none)) else (some (a1,bt178.2))) else (if bt178.1=1 then (if 0≤bt176.1 then (if bt176.1≤(a1.size:Int) then (some (a1.extract 0 (bt176.1:Int).toNat,bt178.2)) else (none)) else (none)) else (if bt178.1=2 then ((spec_l20Rd_of.f k s0_0 bt178.2 (([bz4,bz3,bz6,bz12]:List ByteArray))).bind fun bt188=>(if a1.size+bt188.1.size≤9223372036854775807 then (some (a1++bt188.1,bt188.2)) else (none))) else (some (a1,bt178.2)))))))=some (r1,r2):=h
 clear h
 replace H:=Option.bind_eq_some_iff.mp H
 obtain ⟨⟨t176,t177⟩,A30,H⟩:=H
 replace H:((spec_l20Rd_pick.f k s0_0 t177 5).bind fun bt178=>(if bt178.1=0 then (if t176 < (a1.size:Int) then (if 0≤t176 then (if t176≤(a1.size:Int) then ((spec_l20Rd_of.f k s0_0 bt178.2 (([bz4,bz9,bz10,bz1,bz5,bz11,bz6,bz2]:List ByteArray))).bind fun bt183=>(if (a1.extract 0 (t176:Int).toNat).size+bt183.1.size≤9223372036854775807 then (if 0≤(wrap64 (t176+1)) then (if (wrap64 (t176+1))≤(a1.size:Int) then (if ((a1.extract 0 (t176:Int).toNat)++bt183.1).size+(a1.extract ((wrap64 (t176+1)):Int).toNat a1.size).size≤9223372036854775807 then (some (((a1.extract 0 (t176:Int).toNat)++bt183.1)++(a1.extract ((wrap64 (t176+1)):Int).toNat a1.size),bt183.2)) else (none)) else (none)) else (none)) else (none))) else (none)) else (none)) else (some (a1,bt178.2))) else (if bt178.1=1 then (if 0≤t176 then (if t176≤(a1.size:Int) then (some (a1.extract 0 (t176:Int).toNat,bt178.2)) else (none)) else (none)) else (if bt178.1=2 then ((spec_l20Rd_of.f k s0_0 bt178.2 (([bz4,bz3,bz6,bz12]:List ByteArray))).bind fun bt188=>(if a1.size+bt188.1.size≤9223372036854775807 then (some (a1++bt188.1,bt188.2)) else (none))) else (some (a1,bt178.2))))))=some (r1,r2):=H
 have A3:=Aside0.mk A30
 clear A30
 replace H:=Option.bind_eq_some_iff.mp H
 obtain ⟨⟨t178,t179⟩,A40,H⟩:=H
 replace H:(if t178=0 then (if t176 < (a1.size:Int) then (if 0≤t176 then (if t176≤(a1.size:Int) then ((spec_l20Rd_of.f k s0_0 t179 (([bz4,bz9,bz10,bz1,bz5,bz11,bz6,bz2]:List ByteArray))).bind fun bt183=>(if (a1.extract 0 (t176:Int).toNat).size+bt183.1.size≤9223372036854775807 then (if 0≤(wrap64 (t176+1)) then (if (wrap64 (t176+1))≤(a1.size:Int) then (if ((a1.extract 0 (t176:Int).toNat)++bt183.1).size+(a1.extract ((wrap64 (t176+1)):Int).toNat a1.size).size≤9223372036854775807 then (some (((a1.extract 0 (t176:Int).toNat)++bt183.1)++(a1.extract ((wrap64 (t176+1)):Int).toNat a1.size),bt183.2)) else (none)) else (none)) else (none)) else (none))) else (none)) else (none)) else (some (a1,t179))) else (if t178=1 then (if 0≤t176 then (if t176≤(a1.size:Int) then (some (a1.extract 0 (t176:Int).toNat,t179)) else (none)) else (none)) else (if t178=2 then ((spec_l20Rd_of.f k s0_0 t179 (([bz4,bz3,bz6,bz12]:List ByteArray))).bind fun bt188=>(if a1.size+bt188.1.size≤9223372036854775807 then (some (a1++bt188.1,bt188.2)) else (none))) else (some (a1,t179)))))=some (r1,r2):=H
 have A4:=Aside0.mk A40
 clear A40
 by_cases c5:t178=0
 ·rw [if_pos c5] at H
  have c5b0:(t178==0)=true:=beq_iff_eq.mpr c5
  have c5b1:(t178 != 0)=false:=bne_eq_false_iff_eq.mpr c5
  clear c5
  by_cases c6:t176 < (a1.size:Int)
  ·rw [if_pos c6] at H
   have c6b0:decide (t176 < (a1.size:Int))=true:=decide_eq_true c6
   clear c6
   by_cases c7:0≤t176
   ·rw [if_pos c7] at H
    have c7b0:=eq_true c7
    have c7b1:decide (0≤t176)=true:=decide_eq_true c7
    clear c7
    by_cases c8:t176≤(a1.size:Int)
    ·rw [if_pos c8] at H
     have c8b0:=eq_true c8
     have c8b1:decide (t176≤(a1.size:Int))=true:=decide_eq_true c8
     clear c8
     obtain ⟨y180,hy180⟩:∃ y_:List ByteArray,y_=(([bz4,bz9,bz10,bz1,bz5,bz11,bz6,bz2]:List ByteArray)):=⟨_,rfl⟩
     replace H:((spec_l20Rd_of.f k s0_0 t179 y180).bind fun bt183=>(if (a1.extract 0 (t176:Int).toNat).size+bt183.1.size≤9223372036854775807 then (if 0≤(wrap64 (t176+1)) then (if (wrap64 (t176+1))≤(a1.size:Int) then (if ((a1.extract 0 (t176:Int).toNat)++bt183.1).size+(a1.extract ((wrap64 (t176+1)):Int).toNat a1.size).size≤9223372036854775807 then (some (((a1.extract 0 (t176:Int).toNat)++bt183.1)++(a1.extract ((wrap64 (t176+1)):Int).toNat a1.size),bt183.2)) else (none)) else (none)) else (none)) else (none)))=some (r1,r2):=by first|(rw [hy180];with_reducible exact H)|(have H2_:=(Option.bind_some _ _).symm.trans H;rw [hy180];with_reducible exact H2_)|(have H2_:=(Option.bind_some _ _).symm.trans H;with_reducible exact H2_)|with_reducible exact H|(rw [hy180];exact H)|exact H
     have Ny180:=Aside0.mk hy180
     clear hy180
     replace H:=Option.bind_eq_some_iff.mp H
     obtain ⟨⟨t183,t184⟩,A90,H⟩:=H
     replace H:(if (a1.extract 0 (t176:Int).toNat).size+t183.size≤9223372036854775807 then (if 0≤(wrap64 (t176+1)) then (if (wrap64 (t176+1))≤(a1.size:Int) then (if ((a1.extract 0 (t176:Int).toNat)++t183).size+(a1.extract ((wrap64 (t176+1)):Int).toNat a1.size).size≤9223372036854775807 then (some (((a1.extract 0 (t176:Int).toNat)++t183)++(a1.extract ((wrap64 (t176+1)):Int).toNat a1.size),t184)) else (none)) else (none)) else (none)) else (none))=some (r1,r2):=H
     have A9:=Aside0.mk A90
     clear A90
     by_cases c10:(a1.extract 0 (t176:Int).toNat).size+t183.size≤9223372036854775807
     ·rw [if_pos c10] at H
      have c10b0:=eq_true c10
      have c10b1:decide ((a1.extract 0 (t176:Int).toNat).size+t183.size≤9223372036854775807)=true:=decide_eq_true c10
      try have c10b2:(9223372036854775807 < (a1.extract 0 (t176:Int).toNat).size+t183.size)=False:=eq_false (Nat.not_lt.2 c10)
      try have c10b6:(t176:Int).toNat+t183.size≤9223372036854775807:=by have z_:=c10;simp only [ByteArray.size_append',ByteArray.size_extract,sz1,sz2,sz3,sz4,sz5,sz6,sz7,sz8] at z_;first|omega|((try simp only [decide_eq_true_eq,decide_eq_false_iff_not,eq_iff_iff,iff_true] at *);omega)
      try have c10b7:=eq_true c10b6
      try have c10b8:=eq_false (Nat.not_lt.2 c10b6)
      obtain ⟨ji11,hji11⟩:∃ j_:Int,(wrap64 (t176+1))=j_:=⟨_,rfl⟩
      replace H:(if 0≤(ji11) then (if (ji11)≤(a1.size:Int) then (if ((a1.extract 0 (t176:Int).toNat)++t183).size+(a1.extract ((ji11):Int).toNat a1.size).size≤9223372036854775807 then (some (((a1.extract 0 (t176:Int).toNat)++t183)++(a1.extract ((ji11):Int).toNat a1.size),t184)) else (none)) else (none)) else (none))=some (r1,r2):=by first|(rw [hji11] at H;exact H)|(simp only [hji11] at H ⊢;exact H)
      (try rw [hji11] at A3)
      (try rw [hji11] at A4)
      (try rw [hji11] at A9)
      have hji11w:(IntKind.i64.wrap (t176+1))=ji11:=(i64_w _).trans hji11
      by_cases c12:0≤(ji11)
      ·rw [if_pos c12] at H
       have c12b0:=eq_true c12
       have c12b1:decide (0≤(ji11))=true:=decide_eq_true c12
       clear c12
       by_cases c13:(ji11)≤(a1.size:Int)
       ·rw [if_pos c13] at H
        have c13b0:=eq_true c13
        have c13b1:decide ((ji11)≤(a1.size:Int))=true:=decide_eq_true c13
        clear c13
        by_cases c14:((a1.extract 0 (t176:Int).toNat)++t183).size+(a1.extract ((ji11):Int).toNat a1.size).size≤9223372036854775807
        ·rw [if_pos c14] at H
         have c14b0:=eq_true c14
         have c14b1:decide (((a1.extract 0 (t176:Int).toNat)++t183).size+(a1.extract ((ji11):Int).toNat a1.size).size≤9223372036854775807)=true:=decide_eq_true c14
         try have c14b2:(9223372036854775807 < ((a1.extract 0 (t176:Int).toNat)++t183).size+(a1.extract ((ji11):Int).toNat a1.size).size)=False:=eq_false (Nat.not_lt.2 c14)
         try have c14b3:=c14
         try simp only [ByteArray.size_append',sz1,sz2,sz3,sz4,sz5,sz6,sz7,sz8] at c14b3
         try have c14b4:=eq_true c14b3
         try have c14b5:=eq_false (Nat.not_lt.2 c14b3)
         try have c14b6:(t176:Int).toNat+t183.size+(a1.size - ((ji11):Int).toNat)≤9223372036854775807:=by have z_:=c14;simp only [ByteArray.size_append',ByteArray.size_extract,sz1,sz2,sz3,sz4,sz5,sz6,sz7,sz8] at z_;first|omega|((try simp only [decide_eq_true_eq,decide_eq_false_iff_not,eq_iff_iff,iff_true] at *);omega)
         try have c14b7:=eq_true c14b6
         try have c14b8:=eq_false (Nat.not_lt.2 c14b6)
         simp only [Option.some.injEq,Prod.mk.injEq] at H
         obtain ⟨rfl,rfl⟩:=H
         go_enter Tryz.func48,Tryz.ntmps48
         try go_wp2_with (first|((with_reducible refine zq14 (f:=47) rfl ?_);refine zq20 (some 10) rfl rfl Tryz.func47 (by kernel_rfl) rfl #[.pointer (some ⟨g,0,none⟩),.int .i64 (wrap64 ((a1.size:Int)+1))] rfl (by (try simp only [List.map_toArray,List.map_cons,List.map_nil]);first|done|rfl|(simp only [List.length_drop,List.length_take];rfl)) ?_;(with_reducible refine (spec_l20Rd_pick.calls k g s0_0 s0_1 (wrap64 ((a1.size:Int)+1)) t176 t177 w0 _ ?side1 ?side2 A3.out).mono ?_);(case side1=>repeat (first|(with_reducible first|exact HI0.out|apply IsS69.alloc|apply IsS69.drewN|apply IsS69.drew|apply IsS69.set_1)|exact HI0.out));(case side2=>repeat (first|(with_reducible first|exact HB.out|apply zq1|apply zq0|apply zq2|refine zq5 ?_ (IsS69.ge HI0.out))|exact HB.out));rintro e w15 ⟨rfl,hi,hb,hk⟩;refine ⟨_,rfl,?_⟩;have n0_:=Aside0.mk (KeepBut.trans (by repeat (first|(with_reducible first|exact HK.out|apply KeepBut.set_|apply zq15|apply zq18|apply zq16)|exact HK.out)) hk (.inl rfl));have n1_:=Aside0.mk (hb);have n2_:=Aside0.mk (hi);clear HK;clear HB;clear HI0;have HK:=n0_;have HB:=n1_;have HI0:=n2_;clear n0_ n1_ n2_;(try clear hb);(try clear hb2);(try clear hk);(try clear hi))|((with_reducible refine zq14 (f:=47) rfl ?_);refine zq20 (some 12) rfl rfl Tryz.func47 (by kernel_rfl) rfl #[.pointer (some ⟨g,0,none⟩),.int .i64 5] rfl (by (try simp only [List.map_toArray,List.map_cons,List.map_nil]);first|done|rfl|(simp only [List.length_drop,List.length_take];rfl)) ?_;(with_reducible refine (spec_l20Rd_pick.calls k g s0_0 t177 5 t178 t179 w0 _ ?side1 ?side2 A4.out).mono ?_);(case side1=>repeat (first|(with_reducible first|exact HI0.out|apply IsS69.alloc|apply IsS69.drewN|apply IsS69.drew|apply IsS69.set_1)|exact HI0.out));(case side2=>repeat (first|(with_reducible first|exact HB.out|apply zq1|apply zq0|apply zq2|refine zq5 ?_ (IsS69.ge HI0.out))|exact HB.out));rintro e w16 ⟨rfl,hi,hb,hk⟩;refine ⟨_,rfl,?_⟩;have n0_:=Aside0.mk (KeepBut.trans (by repeat (first|(with_reducible first|exact HK.out|apply KeepBut.set_|apply zq15|apply zq18|apply zq16)|exact HK.out)) hk (.inl rfl));have n1_:=Aside0.mk (hb);have n2_:=Aside0.mk (hi);clear HK;clear HB;clear HI0;have HK:=n0_;have HB:=n1_;have HI0:=n2_;clear n0_ n1_ n2_;(try clear hb);(try clear hb2);(try clear hk);(try clear hi)))
         have n0_:=Aside0.mk (IsS69.drew HI0.out)
         have n1_:=Aside0.mk (zq18 HK.out)
         have n2_:=Aside0.mk (zq2 HB.out)
         clear HI0
         clear HK
         clear HB
         have HI0:=n0_
         have HK:=n1_
         have HB:=n2_
         clear n0_ n1_ n2_
         refine start_ (n:=13) (S:=fun w'=>True) (ds:=[]) #[false,false,false,false,false,false,false,false,false,false,false,false,false] (by kernel_rfl) rfl rfl trivial (fun hHeld=>?_);refine with_tabW spec_l20Bent.tab5 spec_l20Bent.bits5 (fun HT_ HW_=>?_)
         generalize w16.drew=w17 at HI0 HK HB hHeld ⊢
         refine pure_ (i:=0) (N:=some 19) (v:=?_) (a':=?_) #[true,false,false,false,false,false,false,false,false,false,false,false,false] rfl rfl (any_of HT_.out (by kernel_rfl)) (fun _ _ _ h=>h) (Or.inl ⟨by rfl,?_⟩) ?_ ?_
         rotate_left
         ·intro w'
          go_simp
          with_reducible rfl
         rotate_left
         ·simp only [Act.put,List.setIfInBounds_toArray,List.set_cons_zero,List.set_cons_succ,i64_w,i32_w]
          rfl
         refine pure_ (i:=1) (N:=some 20) (v:=?_) (a':=?_) #[true,true,false,false,false,false,false,false,false,false,false,false,false] rfl rfl (any_of HT_.out (by kernel_rfl)) (fun _ _ _ h=>h) (Or.inl ⟨by rfl,?_⟩) ?_ ?_
         rotate_left
         ·intro w'
          go_simp
          with_reducible rfl
         rotate_left
         ·simp only [Act.put,List.setIfInBounds_toArray,List.set_cons_zero,List.set_cons_succ,i64_w,i32_w]
          rfl
         refine pure_ (i:=2) (N:=some 21) (v:=?_) (a':=?_) #[true,true,true,false,false,false,false,false,false,false,false,false,false] rfl rfl (any_of HT_.out (by kernel_rfl)) (fun _ _ _ h=>h) (Or.inl ⟨by rfl,?_⟩) ?_ ?_
         rotate_left
         ·intro w'
          go_simp
          with_reducible rfl
         rotate_left
         ·simp only [Act.put,List.setIfInBounds_toArray,List.set_cons_zero,List.set_cons_succ,i64_w,i32_w]
          rfl
         refine pure_ (i:=3) (N:=some 22) (v:=?_) (a':=?_) #[true,true,true,true,false,false,false,false,false,false,false,false,false] rfl rfl (any_of HT_.out (by kernel_rfl)) (fun _ _ _ h=>h) (Or.inl ⟨by rfl,?_⟩) ?_ ?_
         rotate_left
         ·intro w'
          go_simp
          with_reducible rfl
         rotate_left
         ·simp only [Act.put,List.setIfInBounds_toArray,List.set_cons_zero,List.set_cons_succ,i64_w,i32_w]
          rfl
         refine pure_ (i:=7) (N:=some 26) (v:=?_) (a':=?_) #[true,true,true,true,false,false,false,true,false,false,false,false,false] rfl rfl (any_of HT_.out (by kernel_rfl)) (fun _ _ _ h=>h) (Or.inl ⟨by rfl,?_⟩) ?_ ?_
         rotate_left
         ·intro w'
          go_simp
          with_reducible rfl
         rotate_left
         ·simp only [Act.put,List.setIfInBounds_toArray,List.set_cons_zero,List.set_cons_succ,i64_w,i32_w]
          rfl
         refine pure_ (i:=8) (N:=some 27) (v:=?_) (a':=?_) #[true,true,true,true,false,false,false,true,true,false,false,false,false] rfl rfl (any_of HT_.out (by kernel_rfl)) (fun _ _ _ h=>h) (Or.inl ⟨by rfl,?_⟩) ?_ ?_
         rotate_left
         ·intro w'
          go_simp
          with_reducible rfl
         rotate_left
         ·simp only [Act.put,List.setIfInBounds_toArray,List.set_cons_zero,List.set_cons_succ,i64_w,i32_w]
          rfl
         refine pure_ (i:=9) (N:=some 28) (v:=?_) (a':=?_) #[true,true,true,true,false,false,false,true,true,true,false,false,false] rfl rfl (any_of HT_.out (by kernel_rfl)) (fun _ _ _ h=>h) (Or.inl ⟨by rfl,?_⟩) ?_ ?_
         rotate_left
         ·intro w'
          go_simp
          with_reducible rfl
         rotate_left
         ·simp only [Act.put,List.setIfInBounds_toArray,List.set_cons_zero,List.set_cons_succ,i64_w,i32_w]
          rfl
         refine pure_ (i:=10) (N:=some 29) (v:=?_) (a':=?_) #[true,true,true,true,false,false,false,true,true,true,true,false,false] rfl rfl (any_of HT_.out (by kernel_rfl)) (fun _ _ _ h=>h) (Or.inl ⟨by rfl,?_⟩) ?_ ?_
         rotate_left
         ·intro w'
          go_simp
          with_reducible rfl
         rotate_left
         ·simp only [Act.put,List.setIfInBounds_toArray,List.set_cons_zero,List.set_cons_succ,i64_w,i32_w]
          rfl
         refine one_ (i:=4) (N:=some 23) #[true,true,true,true,true,false,false,true,true,true,true,false,false] rfl rfl (one_of HT_.out (by kernel_rfl)) (by decide) (fun K hK=>?_)
         refine Kd.R_lit_step Kd.string _ 9 ?hg (N:=23) ?hd (xs:=([bz4,bz9,bz10,bz1,bz5,bz11,bz6,bz2]:List ByteArray)) (inner:=[.string bz4,.string bz9,.string bz10,.string bz1,.string bz5,.string bz11,.string bz6,.string bz2]) (ok:=fun _=>True) (okp:=fun _=>True) ?hr ?hp (fun _ hk=>hk) trivial (Below.refl _ _) (Nat.le_refl _) (by simp) ?_;(case hd=>rfl);(case hg=>rfl);(case hr=>first|(go_simp;done)|(go_simp;rfl));(case hp=>exact (Reps.one (show Kd.M Kd.string _ _ _ bz4 [.string bz4] from rfl) (Reps.one (show Kd.M Kd.string _ _ _ bz9 [.string bz9] from rfl) (Reps.one (show Kd.M Kd.string _ _ _ bz10 [.string bz10] from rfl) (Reps.one (show Kd.M Kd.string _ _ _ bz1 [.string bz1] from rfl) (Reps.one (show Kd.M Kd.string _ _ _ bz5 [.string bz5] from rfl) (Reps.one (show Kd.M Kd.string _ _ _ bz11 [.string bz11] from rfl) (Reps.one (show Kd.M Kd.string _ _ _ bz6 [.string bz6] from rfl) (Reps.one (show Kd.M Kd.string _ _ _ bz2 [.string bz2] from rfl) (Reps.none _ _))))))))))
         intro v181 w18 ho19 hb hg_ hnew_
         clear hg_ hnew_
         (first|rw [← Ny180.out] at ho19|(simp only [Int.reduceToNat] at ho19;rw [← Ny180.out] at ho19))
         have n0_:=Aside0.mk (Kd.R_lower ho19 (keep_size (w:=w) (g:=g) (row:=none) (by repeat (first|(with_reducible first|exact HK.out|apply KeepBut.set_|apply zq15|apply zq18|apply zq16)|exact HK.out))))
         have n1_:=Aside0.mk (IsS69.below (by repeat (first|(with_reducible first|exact HI0.out|apply IsS69.alloc|apply IsS69.drewN|apply IsS69.drew|apply IsS69.set_1)|exact HI0.out)) hb)
         have n2_:=Aside0.mk (KeepBut.trans (by repeat (first|(with_reducible first|exact HK.out|apply KeepBut.set_|apply zq15|apply zq18|apply zq16)|exact HK.out)) (KeepBut.of_below hb g none) (.inl rfl))
         have n3_:=Aside0.mk (zq9 (by repeat (first|(with_reducible first|exact HB.out|apply zq1|apply zq0|apply zq2|refine zq5 ?_ (IsS69.ge HI0.out))|exact HB.out)) hb)
         clear HI0
         clear HK
         clear HB
         have HO182:=n0_
         have HI0:=n1_
         have HK:=n2_
         have HB:=n3_
         clear n0_ n1_ n2_ n3_
         clear hb ho19
         obtain ⟨Ao20,co20,eo20⟩:=Kd.R_slice HO182.out
         (first|subst eo20|(injection eo20 with f1_ f2_ f3_;have f4_:=f1_.symm;have f5_:=f3_.symm;clear f1_ f2_ f3_;subst f4_;subst f5_))
         refine hK.out _ _ trivial (fun hHeld=>?_)
         clear hK K
         refine norm_ (a':=?_) ?_ ?_
         rotate_left
         ·show Act.put _ (some 23) _=_
          simp only [Act.put,List.setIfInBounds_toArray,List.set_cons_zero,List.set_cons_succ,i64_w,i32_w]
          rfl
         refine one_ (i:=5) (N:=some 24) #[true,true,true,true,true,true,false,true,true,true,true,false,false] rfl rfl (one_of HT_.out (by kernel_rfl)) (by decide) (fun K hK=>?_)
         refine goes_ Tryz.func81 (by kernel_rfl) rfl #[.pointer (some ⟨g,0,none⟩),.slice Ao20 y180.length co20] (by rfl) rfl rfl (by (try simp only [List.map_toArray,List.map_cons,List.map_nil]);first|done|rfl|(simp only [List.length_drop,List.length_take];rfl)) ?_
         with_reducible refine (spec_l20Rd_of.calls k g s0_0 t179 _ _ y180 t183 t184 w0 _ ?side1 ?side2 ?side3 ?side4 ?side5 A9.out).mono ?_
         (case side1=>repeat (first|(with_reducible first|exact HI0.out|apply IsS69.alloc|apply IsS69.drewN|apply IsS69.drew|apply IsS69.set_1)|exact HI0.out))
         (case side2=>repeat (first|(with_reducible first|exact HB.out|apply zq1|apply zq0|apply zq2|refine zq5 ?_ (IsS69.ge HI0.out))|exact HB.out))
         (case side3=>repeat (first|exact (Kd.R_reads' HO182.out).2.2|(with_reducible refine Kd.C_alloc ?_ _)|(with_reducible refine Kd.C_drewN ?_ _)|(with_reducible refine Kd.C_drew ?_)))
         (case side4=>exact (Kd.R_reads' HO182.out).2.1)
         (case side5=>exact far_slice (IsS69.own_ne HI0.out HO182.out (by decide)))
         rintro e w21 ⟨rfl,hi,hb,hk⟩
         refine ⟨_,rfl,?_⟩
         have n0_:=Aside0.mk (Kd.R_mono (Kd.R_keep (IsS69.apart (show IsS69 w0 _ g s0_0 t179 from by repeat (first|(with_reducible first|exact HI0.out|apply IsS69.alloc|apply IsS69.drewN|apply IsS69.drew|apply IsS69.set_1)|exact HI0.out)) (by (with_reducible repeat (first|apply Kd.R_alloc|apply Kd.R_drewN|apply Kd.R_drew));exact HO182.out) (by decide)) hk (fun _ h=>h.2)) (fun _ h=>h.1))
         have n1_:=Aside0.mk (KeepBut.trans (by repeat (first|(with_reducible first|exact HK.out|apply KeepBut.set_|apply zq15|apply zq18|apply zq16)|exact HK.out)) hk (.inl rfl))
         have n2_:=Aside0.mk (hb)
         have n3_:=Aside0.mk (hi)
         clear HO182
         clear HK
         clear HB
         clear HI0
         have HO182:=n0_
         have HK:=n1_
         have HB:=n2_
         have HI0:=n3_
         clear n0_ n1_ n2_ n3_
         (try clear hb)
         (try clear hb2)
         (try clear hk)
         (try clear hi)
         refine hK.out _ _ trivial (fun hHeld=>?_)
         clear hK K
         refine norm_ (a':=?_) ?_ ?_
         rotate_left
         ·show Act.put _ (some 24) _=_
          simp only [Act.put,List.setIfInBounds_toArray,List.set_cons_zero,List.set_cons_succ,i64_w,i32_w]
          rfl
         refine pure_ (i:=6) (N:=some 25) (v:=?_) (a':=?_) #[true,true,true,true,true,true,true,true,true,true,true,false,false] rfl rfl (any_of HT_.out (by kernel_rfl)) (fun _ _ _ h=>h) (Or.inl ⟨by rfl,?_⟩) ?_ ?_
         rotate_left
         ·intro w'
          go_simp
          with_reducible rfl
         rotate_left
         ·simp only [Act.put,List.setIfInBounds_toArray,List.set_cons_zero,List.set_cons_succ,i64_w,i32_w]
          rfl
         refine pure_ (i:=11) (N:=some 30) (v:=?_) (a':=?_) #[true,true,true,true,true,true,true,true,true,true,true,true,false] rfl rfl (any_of HT_.out (by kernel_rfl)) (fun _ _ _ h=>h) (Or.inl ⟨by rfl,?_⟩) ?_ ?_
         rotate_left
         ·intro w'
          go_simp
          with_reducible rfl
         rotate_left
         ·simp only [Act.put,List.setIfInBounds_toArray,List.set_cons_zero,List.set_cons_succ,i64_w,i32_w]
          rfl
         refine pure_ (i:=12) (N:=some 4) (v:=?_) (a':=?_) #[true,true,true,true,true,true,true,true,true,true,true,true,true] rfl rfl (any_of HT_.out (by kernel_rfl)) (fun _ _ _ h=>h) (Or.inl ⟨by rfl,?_⟩) ?_ ?_
         rotate_left
         ·intro w'
          go_simp
          with_reducible rfl
         rotate_left
         ·simp only [Act.put,List.setIfInBounds_toArray,List.set_cons_zero,List.set_cons_succ,i64_w,i32_w]
          rfl
         refine done_ (done_of HT_.out (by kernel_rfl)) ?_
         try go_wp2
         go_ret
         exact ⟨by first|rfl|(simp [zq11,zq12]<;>rfl)|(simp only [← hji11];first|rfl|(simp [zq11,zq12]<;>rfl))|(simp [*,zq11,zq12]<;>rfl),by repeat (first|(with_reducible first|exact HI0.out|apply IsS69.alloc|apply IsS69.drewN|apply IsS69.drew|apply IsS69.set_1)|exact HI0.out),by repeat (first|(with_reducible first|exact HB.out|apply zq1|apply zq0|apply zq2|refine zq5 ?_ (IsS69.ge HI0.out))|exact HB.out),by repeat (first|(with_reducible first|exact HK.out|apply KeepBut.set_|apply zq15|apply zq18|apply zq16)|exact HK.out)⟩
        ·rw [if_neg c14] at H
         exact absurd H (by simp)
       ·rw [if_neg c13] at H
        exact absurd H (by simp)
      ·rw [if_neg c12] at H
       exact absurd H (by simp)
     ·rw [if_neg c10] at H
      exact absurd H (by simp)
    ·rw [if_neg c8] at H
     exact absurd H (by simp)
   ·rw [if_neg c7] at H
    exact absurd H (by simp)
  ·rw [if_neg c6] at H
   have c6b0:decide (t176 < (a1.size:Int))=false:=decide_eq_false c6
   clear c6
   simp only [Option.some.injEq,Prod.mk.injEq] at H
   obtain ⟨rfl,rfl⟩:=H
   go_enter Tryz.func48,Tryz.ntmps48
   go_wp2_with (first|((with_reducible refine zq14 (f:=47) rfl ?_);refine zq20 (some 10) rfl rfl Tryz.func47 (by kernel_rfl) rfl #[.pointer (some ⟨g,0,none⟩),.int .i64 (wrap64 ((a1.size:Int)+1))] rfl (by (try simp only [List.map_toArray,List.map_cons,List.map_nil]);first|done|rfl|(simp only [List.length_drop,List.length_take];rfl)) ?_;(with_reducible refine (spec_l20Rd_pick.calls k g s0_0 s0_1 (wrap64 ((a1.size:Int)+1)) t176 t177 w0 _ ?side1 ?side2 A3.out).mono ?_);(case side1=>repeat (first|(with_reducible first|exact HI0.out|apply IsS69.alloc|apply IsS69.drewN|apply IsS69.drew|apply IsS69.set_1)|exact HI0.out));(case side2=>repeat (first|(with_reducible first|exact HB.out|apply zq1|apply zq0|apply zq2|refine zq5 ?_ (IsS69.ge HI0.out))|exact HB.out));rintro e w22 ⟨rfl,hi,hb,hk⟩;refine ⟨_,rfl,?_⟩;have n0_:=Aside0.mk (KeepBut.trans (by repeat (first|(with_reducible first|exact HK.out|apply KeepBut.set_|apply zq15|apply zq18|apply zq16)|exact HK.out)) hk (.inl rfl));have n1_:=Aside0.mk (hb);have n2_:=Aside0.mk (hi);clear HK;clear HB;clear HI0;have HK:=n0_;have HB:=n1_;have HI0:=n2_;clear n0_ n1_ n2_;(try clear hb);(try clear hb2);(try clear hk);(try clear hi))|((with_reducible refine zq14 (f:=47) rfl ?_);refine zq20 (some 12) rfl rfl Tryz.func47 (by kernel_rfl) rfl #[.pointer (some ⟨g,0,none⟩),.int .i64 5] rfl (by (try simp only [List.map_toArray,List.map_cons,List.map_nil]);first|done|rfl|(simp only [List.length_drop,List.length_take];rfl)) ?_;(with_reducible refine (spec_l20Rd_pick.calls k g s0_0 t177 5 t178 t179 w0 _ ?side1 ?side2 A4.out).mono ?_);(case side1=>repeat (first|(with_reducible first|exact HI0.out|apply IsS69.alloc|apply IsS69.drewN|apply IsS69.drew|apply IsS69.set_1)|exact HI0.out));(case side2=>repeat (first|(with_reducible first|exact HB.out|apply zq1|apply zq0|apply zq2|refine zq5 ?_ (IsS69.ge HI0.out))|exact HB.out));rintro e w23 ⟨rfl,hi,hb,hk⟩;refine ⟨_,rfl,?_⟩;have n0_:=Aside0.mk (KeepBut.trans (by repeat (first|(with_reducible first|exact HK.out|apply KeepBut.set_|apply zq15|apply zq18|apply zq16)|exact HK.out)) hk (.inl rfl));have n1_:=Aside0.mk (hb);have n2_:=Aside0.mk (hi);clear HK;clear HB;clear HI0;have HK:=n0_;have HB:=n1_;have HI0:=n2_;clear n0_ n1_ n2_;(try clear hb);(try clear hb2);(try clear hk);(try clear hi)))
   go_ret
   exact ⟨by first|rfl|(simp [zq11,zq12]<;>rfl)|(simp [*,zq11,zq12]<;>rfl),by repeat (first|(with_reducible first|exact HI0.out|apply IsS69.alloc|apply IsS69.drewN|apply IsS69.drew|apply IsS69.set_1)|exact HI0.out),by repeat (first|(with_reducible first|exact HB.out|apply zq1|apply zq0|apply zq2|refine zq5 ?_ (IsS69.ge HI0.out))|exact HB.out),by repeat (first|(with_reducible first|exact HK.out|apply KeepBut.set_|apply zq15|apply zq18|apply zq16)|exact HK.out)⟩
 ·rw [if_neg c5] at H
  have c5b0:(t178==0)=false:=beq_eq_false_iff_ne.mpr c5
  have c5b1:(t178 != 0)=true:=bne_iff_ne.mpr c5
  by_cases c24:t178=1
  ·rw [if_pos c24] at H
   have c24b0:(t178==1)=true:=beq_iff_eq.mpr c24
   have c24b1:(t178 != 1)=false:=bne_eq_false_iff_eq.mpr c24
   clear c24
   by_cases c25:0≤t176
   ·rw [if_pos c25] at H
    have c25b0:=eq_true c25
    have c25b1:decide (0≤t176)=true:=decide_eq_true c25
    clear c25
    by_cases c26:t176≤(a1.size:Int)
    ·rw [if_pos c26] at H
     have c26b0:=eq_true c26
     have c26b1:decide (t176≤(a1.size:Int))=true:=decide_eq_true c26
     clear c26
     simp only [Option.some.injEq,Prod.mk.injEq] at H
     obtain ⟨rfl,rfl⟩:=H
     go_enter Tryz.func48,Tryz.ntmps48
     go_wp2_with (first|((with_reducible refine zq14 (f:=47) rfl ?_);refine zq20 (some 10) rfl rfl Tryz.func47 (by kernel_rfl) rfl #[.pointer (some ⟨g,0,none⟩),.int .i64 (wrap64 ((a1.size:Int)+1))] rfl (by (try simp only [List.map_toArray,List.map_cons,List.map_nil]);first|done|rfl|(simp only [List.length_drop,List.length_take];rfl)) ?_;(with_reducible refine (spec_l20Rd_pick.calls k g s0_0 s0_1 (wrap64 ((a1.size:Int)+1)) t176 t177 w0 _ ?side1 ?side2 A3.out).mono ?_);(case side1=>repeat (first|(with_reducible first|exact HI0.out|apply IsS69.alloc|apply IsS69.drewN|apply IsS69.drew|apply IsS69.set_1)|exact HI0.out));(case side2=>repeat (first|(with_reducible first|exact HB.out|apply zq1|apply zq0|apply zq2|refine zq5 ?_ (IsS69.ge HI0.out))|exact HB.out));rintro e w27 ⟨rfl,hi,hb,hk⟩;refine ⟨_,rfl,?_⟩;have n0_:=Aside0.mk (KeepBut.trans (by repeat (first|(with_reducible first|exact HK.out|apply KeepBut.set_|apply zq15|apply zq18|apply zq16)|exact HK.out)) hk (.inl rfl));have n1_:=Aside0.mk (hb);have n2_:=Aside0.mk (hi);clear HK;clear HB;clear HI0;have HK:=n0_;have HB:=n1_;have HI0:=n2_;clear n0_ n1_ n2_;(try clear hb);(try clear hb2);(try clear hk);(try clear hi))|((with_reducible refine zq14 (f:=47) rfl ?_);refine zq20 (some 12) rfl rfl Tryz.func47 (by kernel_rfl) rfl #[.pointer (some ⟨g,0,none⟩),.int .i64 5] rfl (by (try simp only [List.map_toArray,List.map_cons,List.map_nil]);first|done|rfl|(simp only [List.length_drop,List.length_take];rfl)) ?_;(with_reducible refine (spec_l20Rd_pick.calls k g s0_0 t177 5 t178 t179 w0 _ ?side1 ?side2 A4.out).mono ?_);(case side1=>repeat (first|(with_reducible first|exact HI0.out|apply IsS69.alloc|apply IsS69.drewN|apply IsS69.drew|apply IsS69.set_1)|exact HI0.out));(case side2=>repeat (first|(with_reducible first|exact HB.out|apply zq1|apply zq0|apply zq2|refine zq5 ?_ (IsS69.ge HI0.out))|exact HB.out));rintro e w28 ⟨rfl,hi,hb,hk⟩;refine ⟨_,rfl,?_⟩;have n0_:=Aside0.mk (KeepBut.trans (by repeat (first|(with_reducible first|exact HK.out|apply KeepBut.set_|apply zq15|apply zq18|apply zq16)|exact HK.out)) hk (.inl rfl));have n1_:=Aside0.mk (hb);have n2_:=Aside0.mk (hi);clear HK;clear HB;clear HI0;have HK:=n0_;have HB:=n1_;have HI0:=n2_;clear n0_ n1_ n2_;(try clear hb);(try clear hb2);(try clear hk);(try clear hi)))
     go_ret
     exact ⟨by first|rfl|(simp [zq11,zq12]<;>rfl)|(simp [*,zq11,zq12]<;>rfl),by repeat (first|(with_reducible first|exact HI0.out|apply IsS69.alloc|apply IsS69.drewN|apply IsS69.drew|apply IsS69.set_1)|exact HI0.out),by repeat (first|(with_reducible first|exact HB.out|apply zq1|apply zq0|apply zq2|refine zq5 ?_ (IsS69.ge HI0.out))|exact HB.out),by repeat (first|(with_reducible first|exact HK.out|apply KeepBut.set_|apply zq15|apply zq18|apply zq16)|exact HK.out)⟩
    ·rw [if_neg c26] at H
     exact absurd H (by simp)
   ·rw [if_neg c25] at H
    exact absurd H (by simp)
  ·rw [if_neg c24] at H
   have c24b0:(t178==1)=false:=beq_eq_false_iff_ne.mpr c24
   have c24b1:(t178 != 1)=true:=bne_iff_ne.mpr c24
   by_cases c29:t178=2
   ·rw [if_pos c29] at H
    have c29b0:(t178==2)=true:=beq_iff_eq.mpr c29
    have c29b1:(t178 != 2)=false:=bne_eq_false_iff_eq.mpr c29
    clear c29
    obtain ⟨y185,hy185⟩:∃ y_:List ByteArray,y_=(([bz4,bz3,bz6,bz12]:List ByteArray)):=⟨_,rfl⟩
    replace H:((spec_l20Rd_of.f k s0_0 t179 y185).bind fun bt188=>(if a1.size+bt188.1.size≤9223372036854775807 then (some (a1++bt188.1,bt188.2)) else (none)))=some (r1,r2):=by first|(rw [hy185];with_reducible exact H)|(have H2_:=(Option.bind_some _ _).symm.trans H;rw [hy185];with_reducible exact H2_)|(have H2_:=(Option.bind_some _ _).symm.trans H;with_reducible exact H2_)|with_reducible exact H|(rw [hy185];exact H)|exact H
    have Ny185:=Aside0.mk hy185
    clear hy185
    replace H:=Option.bind_eq_some_iff.mp H
    obtain ⟨⟨t188,t189⟩,A300,H⟩:=H
    replace H:(if a1.size+t188.size≤9223372036854775807 then (some (a1++t188,t189)) else (none))=some (r1,r2):=H
    have A30:=Aside0.mk A300
    clear A300
    by_cases c31:a1.size+t188.size≤9223372036854775807
    ·rw [if_pos c31] at H
     have c31b0:=eq_true c31
     have c31b1:decide (a1.size+t188.size≤9223372036854775807)=true:=decide_eq_true c31
     try have c31b2:(9223372036854775807 < a1.size+t188.size)=False:=eq_false (Nat.not_lt.2 c31)
     simp only [Option.some.injEq,Prod.mk.injEq] at H
     obtain ⟨rfl,rfl⟩:=H
     go_enter Tryz.func48,Tryz.ntmps48
     go_wp2_with (first|((with_reducible refine zq14 (f:=47) rfl ?_);refine zq20 (some 10) rfl rfl Tryz.func47 (by kernel_rfl) rfl #[.pointer (some ⟨g,0,none⟩),.int .i64 (wrap64 ((a1.size:Int)+1))] rfl (by (try simp only [List.map_toArray,List.map_cons,List.map_nil]);first|done|rfl|(simp only [List.length_drop,List.length_take];rfl)) ?_;(with_reducible refine (spec_l20Rd_pick.calls k g s0_0 s0_1 (wrap64 ((a1.size:Int)+1)) t176 t177 w0 _ ?side1 ?side2 A3.out).mono ?_);(case side1=>repeat (first|(with_reducible first|exact HI0.out|apply IsS69.alloc|apply IsS69.drewN|apply IsS69.drew|apply IsS69.set_1)|exact HI0.out));(case side2=>repeat (first|(with_reducible first|exact HB.out|apply zq1|apply zq0|apply zq2|refine zq5 ?_ (IsS69.ge HI0.out))|exact HB.out));rintro e w32 ⟨rfl,hi,hb,hk⟩;refine ⟨_,rfl,?_⟩;have n0_:=Aside0.mk (KeepBut.trans (by repeat (first|(with_reducible first|exact HK.out|apply KeepBut.set_|apply zq15|apply zq18|apply zq16)|exact HK.out)) hk (.inl rfl));have n1_:=Aside0.mk (hb);have n2_:=Aside0.mk (hi);clear HK;clear HB;clear HI0;have HK:=n0_;have HB:=n1_;have HI0:=n2_;clear n0_ n1_ n2_;(try clear hb);(try clear hb2);(try clear hk);(try clear hi))|((with_reducible refine zq14 (f:=47) rfl ?_);refine zq20 (some 12) rfl rfl Tryz.func47 (by kernel_rfl) rfl #[.pointer (some ⟨g,0,none⟩),.int .i64 5] rfl (by (try simp only [List.map_toArray,List.map_cons,List.map_nil]);first|done|rfl|(simp only [List.length_drop,List.length_take];rfl)) ?_;(with_reducible refine (spec_l20Rd_pick.calls k g s0_0 t177 5 t178 t179 w0 _ ?side1 ?side2 A4.out).mono ?_);(case side1=>repeat (first|(with_reducible first|exact HI0.out|apply IsS69.alloc|apply IsS69.drewN|apply IsS69.drew|apply IsS69.set_1)|exact HI0.out));(case side2=>repeat (first|(with_reducible first|exact HB.out|apply zq1|apply zq0|apply zq2|refine zq5 ?_ (IsS69.ge HI0.out))|exact HB.out));rintro e w33 ⟨rfl,hi,hb,hk⟩;refine ⟨_,rfl,?_⟩;have n0_:=Aside0.mk (KeepBut.trans (by repeat (first|(with_reducible first|exact HK.out|apply KeepBut.set_|apply zq15|apply zq18|apply zq16)|exact HK.out)) hk (.inl rfl));have n1_:=Aside0.mk (hb);have n2_:=Aside0.mk (hi);clear HK;clear HB;clear HI0;have HK:=n0_;have HB:=n1_;have HI0:=n2_;clear n0_ n1_ n2_;(try clear hb);(try clear hb2);(try clear hk);(try clear hi))|((with_reducible refine zq21 (N:=40) rfl ?_);refine Kd.R_lit Kd.string _ 9 ?hg (N:=40) ?hd (xs:=([bz4,bz3,bz6,bz12]:List ByteArray)) (inner:=[.string bz4,.string bz3,.string bz6,.string bz12]) (ok:=fun _=>True) (okp:=fun _=>True) ?hr ?hp (fun _ hk=>hk) trivial (Below.refl _ _) (Nat.le_refl _) (by simp) ?_;(case hd=>rfl);(case hg=>rfl);(case hr=>first|(go_simp;done)|(go_simp;rfl));(case hp=>exact (Reps.one (show Kd.M Kd.string _ _ _ bz4 [.string bz4] from rfl) (Reps.one (show Kd.M Kd.string _ _ _ bz3 [.string bz3] from rfl) (Reps.one (show Kd.M Kd.string _ _ _ bz6 [.string bz6] from rfl) (Reps.one (show Kd.M Kd.string _ _ _ bz12 [.string bz12] from rfl) (Reps.none _ _))))));intro v186 w34 ho35 hb hg_ hnew_;clear hg_ hnew_;(first|rw [← Ny185.out] at ho35|(simp only [Int.reduceToNat] at ho35;rw [← Ny185.out] at ho35));have n0_:=Aside0.mk (Kd.R_lower ho35 (keep_size (w:=w) (g:=g) (row:=none) (by repeat (first|(with_reducible first|exact HK.out|apply KeepBut.set_|apply zq15|apply zq18|apply zq16)|exact HK.out))));have n1_:=Aside0.mk (IsS69.below (by repeat (first|(with_reducible first|exact HI0.out|apply IsS69.alloc|apply IsS69.drewN|apply IsS69.drew|apply IsS69.set_1)|exact HI0.out)) hb);have n2_:=Aside0.mk (KeepBut.trans (by repeat (first|(with_reducible first|exact HK.out|apply KeepBut.set_|apply zq15|apply zq18|apply zq16)|exact HK.out)) (KeepBut.of_below hb g none) (.inl rfl));have n3_:=Aside0.mk (zq9 (by repeat (first|(with_reducible first|exact HB.out|apply zq1|apply zq0|apply zq2|refine zq5 ?_ (IsS69.ge HI0.out))|exact HB.out)) hb);clear HI0;clear HK;clear HB;have HO187:=n0_;have HI0:=n1_;have HK:=n2_;have HB:=n3_;clear n0_ n1_ n2_ n3_;clear hb ho35;obtain ⟨Ao36,co36,eo36⟩:=Kd.R_slice HO187.out;subst eo36)|((with_reducible refine zq14 (f:=81) rfl ?_);refine zq20 (some 41) rfl rfl Tryz.func81 (by kernel_rfl) rfl #[.pointer (some ⟨g,0,none⟩),.slice Ao36 y185.length co36] rfl (by (try simp only [List.map_toArray,List.map_cons,List.map_nil]);first|done|rfl|(simp only [List.length_drop,List.length_take];rfl)) ?_;(with_reducible refine (spec_l20Rd_of.calls k g s0_0 t179 _ _ y185 t188 t189 w0 _ ?side1 ?side2 ?side3 ?side4 ?side5 A30.out).mono ?_);(case side1=>repeat (first|(with_reducible first|exact HI0.out|apply IsS69.alloc|apply IsS69.drewN|apply IsS69.drew|apply IsS69.set_1)|exact HI0.out));(case side2=>repeat (first|(with_reducible first|exact HB.out|apply zq1|apply zq0|apply zq2|refine zq5 ?_ (IsS69.ge HI0.out))|exact HB.out));(case side3=>repeat (first|exact (Kd.R_reads' HO187.out).2.2|(with_reducible refine Kd.C_alloc ?_ _)|(with_reducible refine Kd.C_drewN ?_ _)|(with_reducible refine Kd.C_drew ?_)));(case side4=>exact (Kd.R_reads' HO187.out).2.1);(case side5=>exact far_slice (IsS69.own_ne HI0.out HO187.out (by decide)));rintro e w37 ⟨rfl,hi,hb,hk⟩;refine ⟨_,rfl,?_⟩;have n0_:=Aside0.mk (Kd.R_mono (Kd.R_keep (IsS69.apart (show IsS69 w0 _ g s0_0 t179 from by repeat (first|(with_reducible first|exact HI0.out|apply IsS69.alloc|apply IsS69.drewN|apply IsS69.drew|apply IsS69.set_1)|exact HI0.out)) (by (with_reducible repeat (first|apply Kd.R_alloc|apply Kd.R_drewN|apply Kd.R_drew));exact HO187.out) (by decide)) hk (fun _ h=>h.2)) (fun _ h=>h.1));have n1_:=Aside0.mk (KeepBut.trans (by repeat (first|(with_reducible first|exact HK.out|apply KeepBut.set_|apply zq15|apply zq18|apply zq16)|exact HK.out)) hk (.inl rfl));have n2_:=Aside0.mk (hb);have n3_:=Aside0.mk (hi);clear HO187;clear HK;clear HB;clear HI0;have HO187:=n0_;have HK:=n1_;have HB:=n2_;have HI0:=n3_;clear n0_ n1_ n2_ n3_;(try clear hb);(try clear hb2);(try clear hk);(try clear hi)))
     go_ret
     exact ⟨by first|rfl|(simp [zq11,zq12]<;>rfl)|(simp [*,zq11,zq12]<;>rfl),by repeat (first|(with_reducible first|exact HI0.out|apply IsS69.alloc|apply IsS69.drewN|apply IsS69.drew|apply IsS69.set_1)|exact HI0.out),by repeat (first|(with_reducible first|exact HB.out|apply zq1|apply zq0|apply zq2|refine zq5 ?_ (IsS69.ge HI0.out))|exact HB.out),by repeat (first|(with_reducible first|exact HK.out|apply KeepBut.set_|apply zq15|apply zq18|apply zq16)|exact HK.out)⟩
    ·rw [if_neg c31] at H
     exact absurd H (by simp)
   ·rw [if_neg c29] at H
    have c29b0:(t178==2)=false:=beq_eq_false_iff_ne.mpr c29
    have c29b1:(t178 != 2)=true:=bne_iff_ne.mpr c29
    simp only [Option.some.injEq,Prod.mk.injEq] at H
    obtain ⟨rfl,rfl⟩:=H
    go_enter Tryz.func48,Tryz.ntmps48
    go_wp2_with (first|((with_reducible refine zq14 (f:=47) rfl ?_);refine zq20 (some 10) rfl rfl Tryz.func47 (by kernel_rfl) rfl #[.pointer (some ⟨g,0,none⟩),.int .i64 (wrap64 ((a1.size:Int)+1))] rfl (by (try simp only [List.map_toArray,List.map_cons,List.map_nil]);first|done|rfl|(simp only [List.length_drop,List.length_take];rfl)) ?_;(with_reducible refine (spec_l20Rd_pick.calls k g s0_0 s0_1 (wrap64 ((a1.size:Int)+1)) t176 t177 w0 _ ?side1 ?side2 A3.out).mono ?_);(case side1=>repeat (first|(with_reducible first|exact HI0.out|apply IsS69.alloc|apply IsS69.drewN|apply IsS69.drew|apply IsS69.set_1)|exact HI0.out));(case side2=>repeat (first|(with_reducible first|exact HB.out|apply zq1|apply zq0|apply zq2|refine zq5 ?_ (IsS69.ge HI0.out))|exact HB.out));rintro e w38 ⟨rfl,hi,hb,hk⟩;refine ⟨_,rfl,?_⟩;have n0_:=Aside0.mk (KeepBut.trans (by repeat (first|(with_reducible first|exact HK.out|apply KeepBut.set_|apply zq15|apply zq18|apply zq16)|exact HK.out)) hk (.inl rfl));have n1_:=Aside0.mk (hb);have n2_:=Aside0.mk (hi);clear HK;clear HB;clear HI0;have HK:=n0_;have HB:=n1_;have HI0:=n2_;clear n0_ n1_ n2_;(try clear hb);(try clear hb2);(try clear hk);(try clear hi))|((with_reducible refine zq14 (f:=47) rfl ?_);refine zq20 (some 12) rfl rfl Tryz.func47 (by kernel_rfl) rfl #[.pointer (some ⟨g,0,none⟩),.int .i64 5] rfl (by (try simp only [List.map_toArray,List.map_cons,List.map_nil]);first|done|rfl|(simp only [List.length_drop,List.length_take];rfl)) ?_;(with_reducible refine (spec_l20Rd_pick.calls k g s0_0 t177 5 t178 t179 w0 _ ?side1 ?side2 A4.out).mono ?_);(case side1=>repeat (first|(with_reducible first|exact HI0.out|apply IsS69.alloc|apply IsS69.drewN|apply IsS69.drew|apply IsS69.set_1)|exact HI0.out));(case side2=>repeat (first|(with_reducible first|exact HB.out|apply zq1|apply zq0|apply zq2|refine zq5 ?_ (IsS69.ge HI0.out))|exact HB.out));rintro e w39 ⟨rfl,hi,hb,hk⟩;refine ⟨_,rfl,?_⟩;have n0_:=Aside0.mk (KeepBut.trans (by repeat (first|(with_reducible first|exact HK.out|apply KeepBut.set_|apply zq15|apply zq18|apply zq16)|exact HK.out)) hk (.inl rfl));have n1_:=Aside0.mk (hb);have n2_:=Aside0.mk (hi);clear HK;clear HB;clear HI0;have HK:=n0_;have HB:=n1_;have HI0:=n2_;clear n0_ n1_ n2_;(try clear hb);(try clear hb2);(try clear hk);(try clear hi)))
    go_ret
    exact ⟨by first|rfl|(simp [zq11,zq12]<;>rfl)|(simp [*,zq11,zq12]<;>rfl),by repeat (first|(with_reducible first|exact HI0.out|apply IsS69.alloc|apply IsS69.drewN|apply IsS69.drew|apply IsS69.set_1)|exact HI0.out),by repeat (first|(with_reducible first|exact HB.out|apply zq1|apply zq0|apply zq2|refine zq5 ?_ (IsS69.ge HI0.out))|exact HB.out),by repeat (first|(with_reducible first|exact HK.out|apply KeepBut.set_|apply zq15|apply zq18|apply zq16)|exact HK.out)⟩
def spec_DrawMailGet.f (k:Nat) (l0:List Int):Option (ByteArray):=(spec_l20Open.f l0).bind fun bt190=>((spec_l20Mail.f k bt190.1 bt190.2).bind fun bt193=>((spec_MailPut.f k bt193.1 bt193.2.1 bt193.2.2.1 bt193.2.2.2.1).bind fun t202=>((spec_l20Rd_pick.f k bt190.1 bt193.2.2.2.2 2).bind fun bt203=>(if bt203.1=0 then (some t202) else ((spec_l20Bent.f k bt190.1 bt203.2 t202).bind fun bt205=>(some bt205.1))))))
set_option maxHeartbeats 8000000 in
set_option maxRecDepth 100000 in
theorem spec_DrawMailGet.calls (k:Nat) (A0:Option Addr) (c0:Nat) (l0:List Int) (r:ByteArray) (w:World) (hr0:Kd.C (Kd.int .u8) w A0 l0.length l0) (hc0:l0.length≤c0) (h:spec_DrawMailGet.f k l0=some r) :
 Calls Tryz.prog 17 #[.slice A0 l0.length c0] w fun e w'=>e=.returned (.string r)∧Below w.heap.size w w':=by
 have HR0:=Aside0.mk hr0
 have HC0:=Aside0.mk hc0
 clear hr0 hc0
 have HB:=Aside0.mk (Below.refl w.heap.size w)
 have H:((spec_l20Open.f l0).bind fun bt190=>((spec_l20Mail.f k bt190.1 bt190.2).bind fun bt193=>((spec_MailPut.f k bt193.1 bt193.2.1 bt193.2.2.1 bt193.2.2.2.1).bind fun t202=>((spec_l20Rd_pick.f k bt190.1 bt193.2.2.2.2 2).bind fun bt203=>(if bt203.1=0 then (some t202) else ((spec_l20Bent.f k bt190.1 bt203.2 t202).bind fun bt205=>(some bt205.1)))))))=some r:=h
 clear h
 replace H:=Option.bind_eq_some_iff.mp H
 obtain ⟨⟨t190,t191⟩,A20,H⟩:=H
 replace H:((spec_l20Mail.f k t190 t191).bind fun bt193=>((spec_MailPut.f k bt193.1 bt193.2.1 bt193.2.2.1 bt193.2.2.2.1).bind fun t202=>((spec_l20Rd_pick.f k t190 bt193.2.2.2.2 2).bind fun bt203=>(if bt203.1=0 then (some t202) else ((spec_l20Bent.f k t190 bt203.2 t202).bind fun bt205=>(some bt205.1))))))=some r:=H
 have A2:=Aside0.mk A20
 clear A20
 replace H:=Option.bind_eq_some_iff.mp H
 obtain ⟨⟨t193,t194,t195,t198,t201⟩,A30,H⟩:=H
 replace H:((spec_MailPut.f k t193 t194 t195 t198).bind fun t202=>((spec_l20Rd_pick.f k t190 t201 2).bind fun bt203=>(if bt203.1=0 then (some t202) else ((spec_l20Bent.f k t190 bt203.2 t202).bind fun bt205=>(some bt205.1)))))=some r:=H
 have A3:=Aside0.mk A30
 clear A30
 replace H:=Option.bind_eq_some_iff.mp H
 obtain ⟨t202,A40,H⟩:=H
 replace H:((spec_l20Rd_pick.f k t190 t201 2).bind fun bt203=>(if bt203.1=0 then (some t202) else ((spec_l20Bent.f k t190 bt203.2 t202).bind fun bt205=>(some bt205.1))))=some r:=H
 have A4:=Aside0.mk A40
 clear A40
 replace H:=Option.bind_eq_some_iff.mp H
 obtain ⟨⟨t203,t204⟩,A50,H⟩:=H
 replace H:(if t203=0 then (some t202) else ((spec_l20Bent.f k t190 t204 t202).bind fun bt205=>(some bt205.1)))=some r:=H
 have A5:=Aside0.mk A50
 clear A50
 by_cases c6:t203=0
 ·rw [if_pos c6] at H
  have c6b0:(t203==0)=true:=beq_iff_eq.mpr c6
  have c6b1:(t203 != 0)=false:=bne_eq_false_iff_eq.mpr c6
  clear c6
  obtain rfl:=Option.some.inj H
  go_enter Tryz.func17,Tryz.ntmps17
  go_wp2_with (first|((with_reducible refine zq14 (f:=19) rfl ?_);refine zq20 (some 6) rfl rfl Tryz.func19 (by kernel_rfl) rfl #[.slice A0 l0.length c0] rfl (by (try simp only [List.map_toArray,List.map_cons,List.map_nil]);first|done|rfl|(simp only [List.length_drop,List.length_take];rfl)) ?_;(with_reducible refine (spec_l20Open.calls _ _ l0 t190 t191 w _ ?side1 ?side2 ?side3 A2.out).mono ?_);(case side1=>repeat (first|(with_reducible first|exact HB.out|apply zq1|apply zq0|apply zq2)|exact HB.out));(case side2=>exact HR0.out);(case side3=>exact HC0.out);rintro e w7 ⟨g192,rfl,hi,hb,hb2⟩;refine ⟨_,rfl,?_⟩;have n0_:=Aside0.mk (hb);have n1_:=Aside0.mk (hi);clear HB;have HB:=n0_;have HI192:=n1_;clear n0_ n1_;(try clear hb);(try clear hb2);(try clear hk);(try clear hi))|((with_reducible refine zq14 (f:=46) rfl ?_);refine zq20 (some 8) rfl rfl Tryz.func46 (by kernel_rfl) rfl #[.pointer (some ⟨g192,0,none⟩)] rfl (by (try simp only [List.map_toArray,List.map_cons,List.map_nil]);first|done|rfl|(simp only [List.length_drop,List.length_take];rfl)) ?_;(with_reducible refine (spec_l20Mail.calls k g192 t190 t191 t193 t194 t195 t198 t201 w _ ?side1 ?side2 A3.out).mono ?_);(case side1=>repeat (first|(with_reducible first|exact HI192.out|apply IsS69.alloc|apply IsS69.drewN|apply IsS69.drew|apply IsS69.set_1)|exact HI192.out));(case side2=>repeat (first|(with_reducible first|exact HB.out|apply zq1|apply zq0|apply zq2|refine zq5 ?_ (IsS69.ge HI192.out))|exact HB.out));rintro e w8 ⟨v196,v199,rfl,ho0,ho1,hi,hb,hk⟩;refine ⟨_,rfl,?_⟩;have n0_:=Aside0.mk (Kd.R_lower ho0 (zq10 (by repeat (first|(with_reducible first|exact HB.out|apply zq1|apply zq0|apply zq2|refine zq5 ?_ (IsS69.ge HI192.out))|exact HB.out))));have n1_:=Aside0.mk (Kd.R_lower ho1 (zq10 (by repeat (first|(with_reducible first|exact HB.out|apply zq1|apply zq0|apply zq2|refine zq5 ?_ (IsS69.ge HI192.out))|exact HB.out))));have n2_:=Aside0.mk (hb);have n3_:=Aside0.mk (hi);clear HB;clear HI192;have HO197:=n0_;have HO200:=n1_;have HB:=n2_;have HI192:=n3_;clear n0_ n1_ n2_ n3_;(try clear hb);(try clear hb2);(try clear hk);(try clear hi);(try clear ho0);(try clear ho1);obtain ⟨Ao9,co9,eo9⟩:=Kd.R_slice HO197.out;subst eo9;obtain ⟨Ao10,co10,eo10⟩:=Kd.R_slice HO200.out;subst eo10)|((with_reducible refine zq14 (f:=8) rfl ?_);refine zq20 (some 9) rfl rfl Tryz.func8 (by kernel_rfl) rfl #[.agg #[.string t193,.string t194,.slice Ao9 t195.length co9,.slice Ao10 t198.length co10]] rfl (by (try simp only [List.map_toArray,List.map_cons,List.map_nil]);first|done|rfl|(simp only [List.length_drop,List.length_take];rfl)) ?_;(with_reducible refine (spec_MailPut.calls k t193 t194 _ _ t195 _ _ t198 t202 _ ?side1 ?side2 ?side3 ?side4 A4.out).mono ?_);(case side1=>repeat (first|exact (Kd.R_reads' HO197.out).2.2|(with_reducible refine Kd.C_alloc ?_ _)|(with_reducible refine Kd.C_drewN ?_ _)|(with_reducible refine Kd.C_drew ?_)));(case side2=>exact (Kd.R_reads' HO197.out).2.1);(case side3=>repeat (first|exact (Kd.R_reads' HO200.out).2.2|(with_reducible refine Kd.C_alloc ?_ _)|(with_reducible refine Kd.C_drewN ?_ _)|(with_reducible refine Kd.C_drew ?_)));(case side4=>exact (Kd.R_reads' HO200.out).2.1);rintro e w11 ⟨rfl,hb⟩;refine ⟨_,rfl,?_⟩;have n0_:=Aside0.mk (Kd.R_below (by (with_reducible repeat (first|apply Kd.R_alloc|apply Kd.R_drewN|apply Kd.R_drew));exact HO197.out) hb);have n1_:=Aside0.mk (Kd.R_below (by (with_reducible repeat (first|apply Kd.R_alloc|apply Kd.R_drewN|apply Kd.R_drew));exact HO200.out) hb);have n2_:=Aside0.mk (IsS69.below (by repeat (first|(with_reducible first|exact HI192.out|apply IsS69.alloc|apply IsS69.drewN|apply IsS69.drew|apply IsS69.set_1)|exact HI192.out)) hb);have n3_:=Aside0.mk (zq9 (by repeat (first|(with_reducible first|exact HB.out|apply zq1|apply zq0|apply zq2|refine zq5 ?_ (IsS69.ge HI192.out))|exact HB.out)) hb);clear HO197;clear HO200;clear HI192;clear HB;have HO197:=n0_;have HO200:=n1_;have HI192:=n2_;have HB:=n3_;clear n0_ n1_ n2_ n3_;(try clear hb);(try clear hb2);(try clear hk);(try clear hi))|((with_reducible refine zq14 (f:=47) rfl ?_);refine zq20 (some 11) rfl rfl Tryz.func47 (by kernel_rfl) rfl #[.pointer (some ⟨g192,0,none⟩),.int .i64 2] rfl (by (try simp only [List.map_toArray,List.map_cons,List.map_nil]);first|done|rfl|(simp only [List.length_drop,List.length_take];rfl)) ?_;(with_reducible refine (spec_l20Rd_pick.calls k g192 t190 t201 2 t203 t204 w _ ?side1 ?side2 A5.out).mono ?_);(case side1=>repeat (first|(with_reducible first|exact HI192.out|apply IsS69.alloc|apply IsS69.drewN|apply IsS69.drew|apply IsS69.set_1)|exact HI192.out));(case side2=>repeat (first|(with_reducible first|exact HB.out|apply zq1|apply zq0|apply zq2|refine zq5 ?_ (IsS69.ge HI192.out))|exact HB.out));rintro e w12 ⟨rfl,hi,hb,hk⟩;refine ⟨_,rfl,?_⟩;have n0_:=Aside0.mk (Kd.R_mono (Kd.R_keep (IsS69.apart (show IsS69 w _ g192 t190 t201 from by repeat (first|(with_reducible first|exact HI192.out|apply IsS69.alloc|apply IsS69.drewN|apply IsS69.drew|apply IsS69.set_1)|exact HI192.out)) (by (with_reducible repeat (first|apply Kd.R_alloc|apply Kd.R_drewN|apply Kd.R_drew));exact HO197.out) (by decide)) hk (fun _ h=>h.2)) (fun _ h=>h.1));have n1_:=Aside0.mk (Kd.R_mono (Kd.R_keep (IsS69.apart (show IsS69 w _ g192 t190 t201 from by repeat (first|(with_reducible first|exact HI192.out|apply IsS69.alloc|apply IsS69.drewN|apply IsS69.drew|apply IsS69.set_1)|exact HI192.out)) (by (with_reducible repeat (first|apply Kd.R_alloc|apply Kd.R_drewN|apply Kd.R_drew));exact HO200.out) (by decide)) hk (fun _ h=>h.2)) (fun _ h=>h.1));have n2_:=Aside0.mk (hb);have n3_:=Aside0.mk (hi);clear HO197;clear HO200;clear HB;clear HI192;have HO197:=n0_;have HO200:=n1_;have HB:=n2_;have HI192:=n3_;clear n0_ n1_ n2_ n3_;(try clear hb);(try clear hb2);(try clear hk);(try clear hi)))
  go_ret
  exact ⟨by first|rfl|(simp [zq11,zq12]<;>rfl)|(simp [*,zq11,zq12]<;>rfl),by repeat (first|(with_reducible first|exact HB.out|apply zq1|apply zq0|apply zq2|refine zq5 ?_ (IsS69.ge HI192.out))|exact HB.out)⟩
 ·rw [if_neg c6] at H
  have c6b0:(t203==0)=false:=beq_eq_false_iff_ne.mpr c6
  have c6b1:(t203 != 0)=true:=bne_iff_ne.mpr c6
  replace H:=Option.bind_eq_some_iff.mp H
  obtain ⟨⟨t205,t206⟩,A130,H⟩:=H
  replace H:(some t205)=some r:=H
  have A13:=Aside0.mk A130
  clear A130
  obtain rfl:=Option.some.inj H
  go_enter Tryz.func17,Tryz.ntmps17
  go_wp2_with (first|((with_reducible refine zq14 (f:=19) rfl ?_);refine zq20 (some 6) rfl rfl Tryz.func19 (by kernel_rfl) rfl #[.slice A0 l0.length c0] rfl (by (try simp only [List.map_toArray,List.map_cons,List.map_nil]);first|done|rfl|(simp only [List.length_drop,List.length_take];rfl)) ?_;(with_reducible refine (spec_l20Open.calls _ _ l0 t190 t191 w _ ?side1 ?side2 ?side3 A2.out).mono ?_);(case side1=>repeat (first|(with_reducible first|exact HB.out|apply zq1|apply zq0|apply zq2)|exact HB.out));(case side2=>exact HR0.out);(case side3=>exact HC0.out);rintro e w14 ⟨g192,rfl,hi,hb,hb2⟩;refine ⟨_,rfl,?_⟩;have n0_:=Aside0.mk (hb);have n1_:=Aside0.mk (hi);clear HB;have HB:=n0_;have HI192:=n1_;clear n0_ n1_;(try clear hb);(try clear hb2);(try clear hk);(try clear hi))|((with_reducible refine zq14 (f:=46) rfl ?_);refine zq20 (some 8) rfl rfl Tryz.func46 (by kernel_rfl) rfl #[.pointer (some ⟨g192,0,none⟩)] rfl (by (try simp only [List.map_toArray,List.map_cons,List.map_nil]);first|done|rfl|(simp only [List.length_drop,List.length_take];rfl)) ?_;(with_reducible refine (spec_l20Mail.calls k g192 t190 t191 t193 t194 t195 t198 t201 w _ ?side1 ?side2 A3.out).mono ?_);(case side1=>repeat (first|(with_reducible first|exact HI192.out|apply IsS69.alloc|apply IsS69.drewN|apply IsS69.drew|apply IsS69.set_1)|exact HI192.out));(case side2=>repeat (first|(with_reducible first|exact HB.out|apply zq1|apply zq0|apply zq2|refine zq5 ?_ (IsS69.ge HI192.out))|exact HB.out));rintro e w15 ⟨v196,v199,rfl,ho0,ho1,hi,hb,hk⟩;refine ⟨_,rfl,?_⟩;have n0_:=Aside0.mk (Kd.R_lower ho0 (zq10 (by repeat (first|(with_reducible first|exact HB.out|apply zq1|apply zq0|apply zq2|refine zq5 ?_ (IsS69.ge HI192.out))|exact HB.out))));have n1_:=Aside0.mk (Kd.R_lower ho1 (zq10 (by repeat (first|(with_reducible first|exact HB.out|apply zq1|apply zq0|apply zq2|refine zq5 ?_ (IsS69.ge HI192.out))|exact HB.out))));have n2_:=Aside0.mk (hb);have n3_:=Aside0.mk (hi);clear HB;clear HI192;have HO197:=n0_;have HO200:=n1_;have HB:=n2_;have HI192:=n3_;clear n0_ n1_ n2_ n3_;(try clear hb);(try clear hb2);(try clear hk);(try clear hi);(try clear ho0);(try clear ho1);obtain ⟨Ao16,co16,eo16⟩:=Kd.R_slice HO197.out;subst eo16;obtain ⟨Ao17,co17,eo17⟩:=Kd.R_slice HO200.out;subst eo17)|((with_reducible refine zq14 (f:=8) rfl ?_);refine zq20 (some 9) rfl rfl Tryz.func8 (by kernel_rfl) rfl #[.agg #[.string t193,.string t194,.slice Ao16 t195.length co16,.slice Ao17 t198.length co17]] rfl (by (try simp only [List.map_toArray,List.map_cons,List.map_nil]);first|done|rfl|(simp only [List.length_drop,List.length_take];rfl)) ?_;(with_reducible refine (spec_MailPut.calls k t193 t194 _ _ t195 _ _ t198 t202 _ ?side1 ?side2 ?side3 ?side4 A4.out).mono ?_);(case side1=>repeat (first|exact (Kd.R_reads' HO197.out).2.2|(with_reducible refine Kd.C_alloc ?_ _)|(with_reducible refine Kd.C_drewN ?_ _)|(with_reducible refine Kd.C_drew ?_)));(case side2=>exact (Kd.R_reads' HO197.out).2.1);(case side3=>repeat (first|exact (Kd.R_reads' HO200.out).2.2|(with_reducible refine Kd.C_alloc ?_ _)|(with_reducible refine Kd.C_drewN ?_ _)|(with_reducible refine Kd.C_drew ?_)));(case side4=>exact (Kd.R_reads' HO200.out).2.1);rintro e w18 ⟨rfl,hb⟩;refine ⟨_,rfl,?_⟩;have n0_:=Aside0.mk (Kd.R_below (by (with_reducible repeat (first|apply Kd.R_alloc|apply Kd.R_drewN|apply Kd.R_drew));exact HO197.out) hb);have n1_:=Aside0.mk (Kd.R_below (by (with_reducible repeat (first|apply Kd.R_alloc|apply Kd.R_drewN|apply Kd.R_drew));exact HO200.out) hb);have n2_:=Aside0.mk (IsS69.below (by repeat (first|(with_reducible first|exact HI192.out|apply IsS69.alloc|apply IsS69.drewN|apply IsS69.drew|apply IsS69.set_1)|exact HI192.out)) hb);have n3_:=Aside0.mk (zq9 (by repeat (first|(with_reducible first|exact HB.out|apply zq1|apply zq0|apply zq2|refine zq5 ?_ (IsS69.ge HI192.out))|exact HB.out)) hb);clear HO197;clear HO200;clear HI192;clear HB;have HO197:=n0_;have HO200:=n1_;have HI192:=n2_;have HB:=n3_;clear n0_ n1_ n2_ n3_;(try clear hb);(try clear hb2);(try clear hk);(try clear hi))|((with_reducible refine zq14 (f:=47) rfl ?_);refine zq20 (some 11) rfl rfl Tryz.func47 (by kernel_rfl) rfl #[.pointer (some ⟨g192,0,none⟩),.int .i64 2] rfl (by (try simp only [List.map_toArray,List.map_cons,List.map_nil]);first|done|rfl|(simp only [List.length_drop,List.length_take];rfl)) ?_;(with_reducible refine (spec_l20Rd_pick.calls k g192 t190 t201 2 t203 t204 w _ ?side1 ?side2 A5.out).mono ?_);(case side1=>repeat (first|(with_reducible first|exact HI192.out|apply IsS69.alloc|apply IsS69.drewN|apply IsS69.drew|apply IsS69.set_1)|exact HI192.out));(case side2=>repeat (first|(with_reducible first|exact HB.out|apply zq1|apply zq0|apply zq2|refine zq5 ?_ (IsS69.ge HI192.out))|exact HB.out));rintro e w19 ⟨rfl,hi,hb,hk⟩;refine ⟨_,rfl,?_⟩;have n0_:=Aside0.mk (Kd.R_mono (Kd.R_keep (IsS69.apart (show IsS69 w _ g192 t190 t201 from by repeat (first|(with_reducible first|exact HI192.out|apply IsS69.alloc|apply IsS69.drewN|apply IsS69.drew|apply IsS69.set_1)|exact HI192.out)) (by (with_reducible repeat (first|apply Kd.R_alloc|apply Kd.R_drewN|apply Kd.R_drew));exact HO197.out) (by decide)) hk (fun _ h=>h.2)) (fun _ h=>h.1));have n1_:=Aside0.mk (Kd.R_mono (Kd.R_keep (IsS69.apart (show IsS69 w _ g192 t190 t201 from by repeat (first|(with_reducible first|exact HI192.out|apply IsS69.alloc|apply IsS69.drewN|apply IsS69.drew|apply IsS69.set_1)|exact HI192.out)) (by (with_reducible repeat (first|apply Kd.R_alloc|apply Kd.R_drewN|apply Kd.R_drew));exact HO200.out) (by decide)) hk (fun _ h=>h.2)) (fun _ h=>h.1));have n2_:=Aside0.mk (hb);have n3_:=Aside0.mk (hi);clear HO197;clear HO200;clear HB;clear HI192;have HO197:=n0_;have HO200:=n1_;have HB:=n2_;have HI192:=n3_;clear n0_ n1_ n2_ n3_;(try clear hb);(try clear hb2);(try clear hk);(try clear hi))|((with_reducible refine zq14 (f:=48) rfl ?_);refine zq20 (some 16) rfl rfl Tryz.func48 (by kernel_rfl) rfl #[.pointer (some ⟨g192,0,none⟩),.string t202] rfl (by (try simp only [List.map_toArray,List.map_cons,List.map_nil]);first|done|rfl|(simp only [List.length_drop,List.length_take];rfl)) ?_;(with_reducible refine (spec_l20Bent.calls k g192 t190 t204 t202 t205 t206 w _ ?side1 ?side2 A13.out).mono ?_);(case side1=>repeat (first|(with_reducible first|exact HI192.out|apply IsS69.alloc|apply IsS69.drewN|apply IsS69.drew|apply IsS69.set_1)|exact HI192.out));(case side2=>repeat (first|(with_reducible first|exact HB.out|apply zq1|apply zq0|apply zq2|refine zq5 ?_ (IsS69.ge HI192.out))|exact HB.out));rintro e w20 ⟨rfl,hi,hb,hk⟩;refine ⟨_,rfl,?_⟩;have n0_:=Aside0.mk (Kd.R_mono (Kd.R_keep (IsS69.apart (show IsS69 w _ g192 t190 t204 from by repeat (first|(with_reducible first|exact HI192.out|apply IsS69.alloc|apply IsS69.drewN|apply IsS69.drew|apply IsS69.set_1)|exact HI192.out)) (by (with_reducible repeat (first|apply Kd.R_alloc|apply Kd.R_drewN|apply Kd.R_drew));exact HO197.out) (by decide)) hk (fun _ h=>h.2)) (fun _ h=>h.1));have n1_:=Aside0.mk (Kd.R_mono (Kd.R_keep (IsS69.apart (show IsS69 w _ g192 t190 t204 from by repeat (first|(with_reducible first|exact HI192.out|apply IsS69.alloc|apply IsS69.drewN|apply IsS69.drew|apply IsS69.set_1)|exact HI192.out)) (by (with_reducible repeat (first|apply Kd.R_alloc|apply Kd.R_drewN|apply Kd.R_drew));exact HO200.out) (by decide)) hk (fun _ h=>h.2)) (fun _ h=>h.1));have n2_:=Aside0.mk (hb);have n3_:=Aside0.mk (hi);clear HO197;clear HO200;clear HB;clear HI192;have HO197:=n0_;have HO200:=n1_;have HB:=n2_;have HI192:=n3_;clear n0_ n1_ n2_ n3_;(try clear hb);(try clear hb2);(try clear hk);(try clear hi)))
  go_ret
  exact ⟨by first|rfl|(simp [zq11,zq12]<;>rfl)|(simp [*,zq11,zq12]<;>rfl),by repeat (first|(with_reducible first|exact HB.out|apply zq1|apply zq0|apply zq2|refine zq5 ?_ (IsS69.ge HI192.out))|exact HB.out)⟩
end Go.Proofs.YthkibaldmjfmmaaGreatDoor.Q
