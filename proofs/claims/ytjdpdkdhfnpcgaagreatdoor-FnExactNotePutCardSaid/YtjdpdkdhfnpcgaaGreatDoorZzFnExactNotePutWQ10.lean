/- Of a text of ours what this claim needs. -/
import Derived.Test.YtjdpdkdhfnpcgaaGreatDoorZzFnExactNotePutWQ0
import Derived.Test.YtjdpdkdhfnpcgaaGreatDoorZzFnExactNotePutWQ8
import Derived.Test.YtjdpdkdhfnpcgaaGreatDoorZzFnExactNotePutWQ9
namespace Go.Proofs.YtjdpdkdhfnpcgaaGreatDoor.Q
open Go.RowKit Go.Proofs.YtjdpdkdhfnpcgaaGreatDoorW.PrintWords Go.Proofs.YtjdpdkdhfnpcgaaGreatDoorW.PrintLast Go.Proofs.YtjdpdkdhfnpcgaaGreatDoorW.PrintMore
attribute [local go_sem] max2_int min2_int max_two min_two max_three min_three max_four min_four
set_option linter.unusedVariables false
set_option linter.unusedSimpArgs false
def spec_l6Body.f (k:Nat) (a0_0:Int) (a0_1:Int) (a0_2:ByteArray) (a0_3:ByteArray) (a0_4:Int) (a0_5:ByteArray) (a0_6:ByteArray) (l0_7:List (S24)) (l0_8:List ByteArray):Option (ByteArray):=if a0_0=1 then ((spec_l1Dec.f k a0_4).bind fun t108=>(if 4+t108.size≤9223372036854775807 then (if ((⟨#[97,100,100,32]⟩:ByteArray)++t108).size+1≤9223372036854775807 then ((spec_l2Put.f k a0_5 a0_6 l0_7 l0_8).bind fun t109=>(if (((⟨#[97,100,100,32]⟩:ByteArray)++t108)++(⟨#[10]⟩:ByteArray)).size+t109.size≤9223372036854775807 then (some ((((⟨#[97,100,100,32]⟩:ByteArray)++t108)++(⟨#[10]⟩:ByteArray))++t109)) else (none))) else (none)) else (none))) else (if a0_0=2 then ((spec_l1Dec.f k a0_1).bind fun t110=>(if 5+t110.size≤9223372036854775807 then (if ((⟨#[100,111,110,101,32]⟩:ByteArray)++t110).size+1≤9223372036854775807 then ((spec_l1Put.f a0_2 a0_3).bind fun t111=>(if (((⟨#[100,111,110,101,32]⟩:ByteArray)++t110)++(⟨#[32]⟩:ByteArray)).size+t111.size≤9223372036854775807 then (some ((((⟨#[100,111,110,101,32]⟩:ByteArray)++t110)++(⟨#[32]⟩:ByteArray))++t111)) else (none))) else (none)) else (none))) else ((spec_l1Dec.f k a0_1).bind fun t112=>(if 6+t112.size≤9223372036854775807 then (if ((⟨#[108,97,116,101,114,32]⟩:ByteArray)++t112).size+1≤9223372036854775807 then ((spec_l1Put.f a0_2 a0_3).bind fun t113=>(if (((⟨#[108,97,116,101,114,32]⟩:ByteArray)++t112)++(⟨#[32]⟩:ByteArray)).size+t113.size≤9223372036854775807 then (if ((((⟨#[108,97,116,101,114,32]⟩:ByteArray)++t112)++(⟨#[32]⟩:ByteArray))++t113).size+1≤9223372036854775807 then ((spec_l1Dec.f k a0_4).bind fun t114=>(if (((((⟨#[108,97,116,101,114,32]⟩:ByteArray)++t112)++(⟨#[32]⟩:ByteArray))++t113)++(⟨#[32]⟩:ByteArray)).size+t114.size≤9223372036854775807 then (some ((((((⟨#[108,97,116,101,114,32]⟩:ByteArray)++t112)++(⟨#[32]⟩:ByteArray))++t113)++(⟨#[32]⟩:ByteArray))++t114)) else (none))) else (none)) else (none))) else (none)) else (none))))
def spec_l6Body.T3:Bool × List (List Nat × List Nat):=(true,[([],[]),([0],[0]),([1],[1]),([2],[2]),([3],[3]),([],[]),([5],[5]),([6,2],[6]),([4,7],[4,7]),([8,7,0,1,2,3,4,5,6,7,8],[8])])
def spec_l6Body.B3:List Nat:=[0,1,3,7,15,0,32,103,255,511]
theorem spec_l6Body.tab3:rtab .any (opsOf Tryz.f26 3)=spec_l6Body.T3:=by kernel_rfl
theorem spec_l6Body.bits3:waitsOk spec_l6Body.T3.2 spec_l6Body.B3=true:=by kernel_rfl
def spec_l6Body.T5:Bool × List (List Nat × List Nat):=(true,[([],[]),([0],[0]),([1],[1]),([2],[2]),([3],[3]),([],[]),([5],[5]),([6,2],[6]),([4,7],[4,7]),([8,7,0,1,2,3,4,5,6,7,8],[8])])
def spec_l6Body.B5:List Nat:=[0,1,3,7,15,0,32,103,255,511]
theorem spec_l6Body.tab5:rtab .any (opsOf Tryz.f26 5)=spec_l6Body.T5:=by kernel_rfl
theorem spec_l6Body.bits5:waitsOk spec_l6Body.T5.2 spec_l6Body.B5=true:=by kernel_rfl
def spec_l6Body.T6:Bool × List (List Nat × List Nat):=(true,[([],[]),([0],[0]),([1],[1]),([2],[2]),([3],[3]),([],[]),([5],[5]),([6,2],[6]),([4,7],[4,7]),([8],[8]),([],[]),([10],[10]),([11,7],[11]),([9,12],[9,12]),([13,12,0,1,2,3,4,5,6,7,8,9,10,11,12,13],[13])])
def spec_l6Body.B6:List Nat:=[0,1,3,7,15,0,32,103,255,511,0,1024,3303,8191,16383]
theorem spec_l6Body.tab6:rtab .any (opsOf Tryz.f26 6)=spec_l6Body.T6:=by kernel_rfl
theorem spec_l6Body.bits6:waitsOk spec_l6Body.T6.2 spec_l6Body.B6=true:=by kernel_rfl
set_option maxHeartbeats 8000000 in
set_option maxRecDepth 100000 in
theorem spec_l6Body.calls (k:Nat) (a0_0:Int) (a0_1:Int) (a0_2:ByteArray) (a0_3:ByteArray) (a0_4:Int) (a0_5:ByteArray) (a0_6:ByteArray) (A0_7:Option Addr) (c0_7:Nat) (l0_7:List (S24)) (A0_8:Option Addr) (c0_8:Nat) (l0_8:List ByteArray) (r:ByteArray) (w:World) (hr0_7:Kd.C k24 w A0_7 l0_7.length l0_7) (hc0_7:l0_7.length≤c0_7) (hr0_8:Kd.C Kd.string w A0_8 l0_8.length l0_8) (hc0_8:l0_8.length≤c0_8) (h:spec_l6Body.f k a0_0 a0_1 a0_2 a0_3 a0_4 a0_5 a0_6 l0_7 l0_8=some r) :
    Calls Tryz.prog 26 #[.agg #[.int .i64 a0_0,.int .i64 a0_1,.string a0_2,.string a0_3,.int .i64 a0_4,.string a0_5,.string a0_6,.slice A0_7 l0_7.length c0_7,.slice A0_8 l0_8.length c0_8]] w fun e w'=>e=.returned (.string r)∧Below w.heap.size w w':=by
  have hu30:=Tryz.underlying30
  have hu28:=Tryz.underlying28
  have hu24:=Tryz.underlying24
  have HR0_7:=Aside0.mk hr0_7
  have HC0_7:=Aside0.mk hc0_7
  clear hr0_7 hc0_7
  have HR0_8:=Aside0.mk hr0_8
  have HC0_8:=Aside0.mk hc0_8
  clear hr0_8 hc0_8
  have HB:=Aside0.mk (Below.refl w.heap.size w)
  have H:(if a0_0=1 then ((spec_l1Dec.f k a0_4).bind fun t108=>(if 4+t108.size≤9223372036854775807 then (if ((⟨#[97,100,100,32]⟩:ByteArray)++t108).size+1≤9223372036854775807 then ((spec_l2Put.f k a0_5 a0_6 l0_7 l0_8).bind fun t109=>(if (((⟨#[97,100,100,32]⟩:ByteArray)++t108)++(⟨#[10]⟩:ByteArray)).size+t109.size≤9223372036854775807 then (some ((((⟨#[97,100,100,32]⟩:ByteArray)++t108)++(⟨#[10]⟩:ByteArray))++t109)) else (none))) else (none)) else (none))) else (if a0_0=2 then ((spec_l1Dec.f k a0_1).bind fun t110=>(if 5+t110.size≤9223372036854775807 then (if ((⟨#[100,111,110,101,32]⟩:ByteArray)++t110).size+1≤9223372036854775807 then ((spec_l1Put.f a0_2 a0_3).bind fun t111=>(if (((⟨#[100,111,110,101,32]⟩:ByteArray)++t110)++(⟨#[32]⟩:ByteArray)).size+t111.size≤9223372036854775807 then (some ((((⟨#[100,111,110,101,32]⟩:ByteArray)++t110)++(⟨#[32]⟩:ByteArray))++t111)) else (none))) else (none)) else (none))) else ((spec_l1Dec.f k a0_1).bind fun t112=>(if 6+t112.size≤9223372036854775807 then (if ((⟨#[108,97,116,101,114,32]⟩:ByteArray)++t112).size+1≤9223372036854775807 then ((spec_l1Put.f a0_2 a0_3).bind fun t113=>(if (((⟨#[108,97,116,101,114,32]⟩:ByteArray)++t112)++(⟨#[32]⟩:ByteArray)).size+t113.size≤9223372036854775807 then (if ((((⟨#[108,97,116,101,114,32]⟩:ByteArray)++t112)++(⟨#[32]⟩:ByteArray))++t113).size+1≤9223372036854775807 then ((spec_l1Dec.f k a0_4).bind fun t114=>(if (((((⟨#[108,97,116,101,114,32]⟩:ByteArray)++t112)++(⟨#[32]⟩:ByteArray))++t113)++(⟨#[32]⟩:ByteArray)).size+t114.size≤9223372036854775807 then (some ((((((⟨#[108,97,116,101,114,32]⟩:ByteArray)++t112)++(⟨#[32]⟩:ByteArray))++t113)++(⟨#[32]⟩:ByteArray))++t114)) else (none))) else (none)) else (none))) else (none)) else (none)))))=some r:=h
  clear h
  by_cases c2:a0_0=1
  · rw [if_pos c2] at H
    have c2b0:(a0_0==1)=true:=beq_iff_eq.mpr c2
    have c2b1:(a0_0 != 1)=false:=bne_eq_false_iff_eq.mpr c2
    clear c2
    replace H:=Option.bind_eq_some_iff.mp H
    obtain ⟨t108,A30,H⟩:=H
    replace H:(if 4+t108.size≤9223372036854775807 then (if ((⟨#[97,100,100,32]⟩:ByteArray)++t108).size+1≤9223372036854775807 then ((spec_l2Put.f k a0_5 a0_6 l0_7 l0_8).bind fun t109=>(if (((⟨#[97,100,100,32]⟩:ByteArray)++t108)++(⟨#[10]⟩:ByteArray)).size+t109.size≤9223372036854775807 then (some ((((⟨#[97,100,100,32]⟩:ByteArray)++t108)++(⟨#[10]⟩:ByteArray))++t109)) else (none))) else (none)) else (none))=some r:=H
    have A3:=Aside0.mk A30
    clear A30
    by_cases c4:4+t108.size≤9223372036854775807
    · rw [if_pos c4] at H
      have c4b0:=eq_true c4
      have c4b1:decide (4+t108.size≤9223372036854775807)=true:=decide_eq_true c4
      try have c4b2:(9223372036854775807 < 4+t108.size)=False:=eq_false (Nat.not_lt.2 c4)
      by_cases c5:((⟨#[97,100,100,32]⟩:ByteArray)++t108).size+1≤9223372036854775807
      · rw [if_pos c5] at H
        have c5b0:=eq_true c5
        have c5b1:decide (((⟨#[97,100,100,32]⟩:ByteArray)++t108).size+1≤9223372036854775807)=true:=decide_eq_true c5
        try have c5b2:(9223372036854775807 < ((⟨#[97,100,100,32]⟩:ByteArray)++t108).size+1)=False:=eq_false (Nat.not_lt.2 c5)
        try have c5b3:=c5
        try simp only [ByteArray.size_append',sz1,sz2,sz3,sz4,sz5,sz6,sz7,sz8] at c5b3
        try have c5b4:=eq_true c5b3
        try have c5b5:=eq_false (Nat.not_lt.2 c5b3)
        replace H:=Option.bind_eq_some_iff.mp H
        obtain ⟨t109,A60,H⟩:=H
        replace H:(if (((⟨#[97,100,100,32]⟩:ByteArray)++t108)++(⟨#[10]⟩:ByteArray)).size+t109.size≤9223372036854775807 then (some ((((⟨#[97,100,100,32]⟩:ByteArray)++t108)++(⟨#[10]⟩:ByteArray))++t109)) else (none))=some r:=H
        have A6:=Aside0.mk A60
        clear A60
        by_cases c7:(((⟨#[97,100,100,32]⟩:ByteArray)++t108)++(⟨#[10]⟩:ByteArray)).size+t109.size≤9223372036854775807
        · rw [if_pos c7] at H
          have c7b0:=eq_true c7
          have c7b1:decide ((((⟨#[97,100,100,32]⟩:ByteArray)++t108)++(⟨#[10]⟩:ByteArray)).size+t109.size≤9223372036854775807)=true:=decide_eq_true c7
          try have c7b2:(9223372036854775807 < (((⟨#[97,100,100,32]⟩:ByteArray)++t108)++(⟨#[10]⟩:ByteArray)).size+t109.size)=False:=eq_false (Nat.not_lt.2 c7)
          try have c7b3:=c7
          try simp only [ByteArray.size_append',sz1,sz2,sz3,sz4,sz5,sz6,sz7,sz8] at c7b3
          try have c7b4:=eq_true c7b3
          try have c7b5:=eq_false (Nat.not_lt.2 c7b3)
          obtain rfl:=Option.some.inj H
          go_enter Tryz.func26,Tryz.ntmps26
          try go_wp2_with (first|((with_reducible refine gate_dst (N:=1) rfl ?_);refine box_event ?hg (N:=1) ?hd (cs:=#[.int .i64 a0_0,.int .i64 a0_1,.string a0_2,.string a0_3,.int .i64 a0_4,.string a0_5,.string a0_6,.slice A0_7 l0_7.length c0_7,.slice A0_8 l0_8.length c0_8]) (t:=30) ?hr ?_;(case hd=>rfl);(case hg=>rfl);(case hr=>first|(go_simp;done)|(go_simp;rfl));intro gb107 hg w8 hbox hb;have n0_:=Aside0.mk (below_step (by repeat (first|(with_reducible first|exact HB.out|apply below_alloc|apply pw_below_drewN|apply below_drew1)|exact HB.out)) hb);have n1_:=Aside0.mk (hbox);have n2_:=Aside0.mk ((by rw [hg];exact (below_size (by repeat (first|(with_reducible first|exact HB.out|apply below_alloc|apply pw_below_drewN|apply below_drew1)|exact HB.out))):w.heap.size≤gb107));have n3_:=Aside0.mk ((by rw [hg];exact (below_size (by repeat (first|(with_reducible first|exact HB.out|apply below_alloc|apply pw_below_drewN|apply below_drew1)|exact HB.out))):w.heap.size≤gb107));clear HB;have HB:=n0_;have BK107:=n1_;have GW107:=n2_;have GE107:=n3_;clear n0_ n1_ n2_ n3_;clear hb hbox hg;have hcz9_0:w8.cell? ⟨gb107,0,none⟩=some (.int .i64 a0_0):=(blk_cell BK107.out 0).trans rfl;have hcz9_1:w8.cell? ⟨gb107,1,none⟩=some (.int .i64 a0_1):=(blk_cell BK107.out 1).trans rfl;have hcz9_2:w8.cell? ⟨gb107,2,none⟩=some (.string a0_2):=(blk_cell BK107.out 2).trans rfl;have hcz9_3:w8.cell? ⟨gb107,3,none⟩=some (.string a0_3):=(blk_cell BK107.out 3).trans rfl;have hcz9_4:w8.cell? ⟨gb107,4,none⟩=some (.int .i64 a0_4):=(blk_cell BK107.out 4).trans rfl;have hcz9_5:w8.cell? ⟨gb107,5,none⟩=some (.string a0_5):=(blk_cell BK107.out 5).trans rfl;have hcz9_6:w8.cell? ⟨gb107,6,none⟩=some (.string a0_6):=(blk_cell BK107.out 6).trans rfl;have hcz9_7:w8.cell? ⟨gb107,7,none⟩=some (.slice A0_7 l0_7.length c0_7):=(blk_cell BK107.out 7).trans rfl;have hcz9_8:w8.cell? ⟨gb107,8,none⟩=some (.slice A0_8 l0_8.length c0_8):=(blk_cell BK107.out 8).trans rfl;have hfz9_0:=blk_frozen BK107.out 0;have hfz9_1:=blk_frozen BK107.out 1;have hfz9_2:=blk_frozen BK107.out 2;have hfz9_3:=blk_frozen BK107.out 3;have hfz9_4:=blk_frozen BK107.out 4;have hfz9_5:=blk_frozen BK107.out 5;have hfz9_6:=blk_frozen BK107.out 6;have hfz9_7:=blk_frozen BK107.out 7;have hfz9_8:=blk_frozen BK107.out 8))
          have n0_:=Aside0.mk (blk_drew BK107.out)
          have n1_:=Aside0.mk (below_drew1 HB.out)
          clear BK107
          clear HB
          have BK107:=n0_
          have HB:=n1_
          clear n0_ n1_
          refine start_ (n:=10) (S:=fun w'=>w'.cell? ⟨gb107,0,none⟩=some (.int .i64 a0_0)∧w'.cell? ⟨gb107,1,none⟩=some (.int .i64 a0_1)∧w'.cell? ⟨gb107,2,none⟩=some (.string a0_2)∧w'.cell? ⟨gb107,3,none⟩=some (.string a0_3)∧w'.cell? ⟨gb107,4,none⟩=some (.int .i64 a0_4)∧w'.cell? ⟨gb107,5,none⟩=some (.string a0_5)∧w'.cell? ⟨gb107,6,none⟩=some (.string a0_6)∧w'.cell? ⟨gb107,7,none⟩=some (.slice A0_7 l0_7.length c0_7)∧w'.cell? ⟨gb107,8,none⟩=some (.slice A0_8 l0_8.length c0_8)) (ds:=[]) #[false,false,false,false,false,false,false,false,false,false] (by kernel_rfl) rfl rfl ⟨(blk_cell BK107.out 0).trans rfl,(blk_cell BK107.out 1).trans rfl,(blk_cell BK107.out 2).trans rfl,(blk_cell BK107.out 3).trans rfl,(blk_cell BK107.out 4).trans rfl,(blk_cell BK107.out 5).trans rfl,(blk_cell BK107.out 6).trans rfl,(blk_cell BK107.out 7).trans rfl,(blk_cell BK107.out 8).trans rfl⟩ (fun hHeld=>?_);refine with_tabW spec_l6Body.tab3 spec_l6Body.bits3 (fun HT_ HW_=>?_)
          generalize w8.drew=w10 at BK107 HB hHeld ⊢
          refine pure_ (i:=0) (N:=some 7) (v:=?_) (a':=?_) #[true,false,false,false,false,false,false,false,false,false] rfl rfl (any_of HT_.out (by kernel_rfl)) (fun _ _ _ h=>h) (Or.inl ⟨by rfl,?_⟩) ?_ ?_
          rotate_left
          · intro w'
            go_simp
            with_reducible rfl
          rotate_left
          · simp only [Act.put,List.setIfInBounds_toArray,List.set_cons_zero,List.set_cons_succ,i64_w,i32_w]
            rfl
          refine pure_ (i:=5) (N:=some 12) (v:=?_) (a':=?_) #[true,false,false,false,false,true,false,false,false,false] rfl rfl (any_of HT_.out (by kernel_rfl)) (fun _ _ _ h=>h) (Or.inl ⟨by rfl,?_⟩) ?_ ?_
          rotate_left
          · intro w'
            go_simp
            with_reducible rfl
          rotate_left
          · simp only [Act.put,List.setIfInBounds_toArray,List.set_cons_zero,List.set_cons_succ,i64_w,i32_w]
            rfl
          refine take_ (i:=1) (N:=some 8) (v:=?_) (a':=?_) #[true,true,false,false,false,true,false,false,false,false] rfl rfl (take_ofW HT_.out HW_.out (by kernel_rfl)) (fun _ _ _ h=>h) (Or.inl ⟨by rfl,?_⟩) hHeld ?_ ?_
          rotate_left
          · rintro w' ⟨s0,s1,s2,s3,s4,s5,s6,s7,s8⟩
            go_simp
            with_reducible rfl
          rotate_left
          · simp only [Act.put,List.setIfInBounds_toArray,List.set_cons_zero,List.set_cons_succ,i64_w,i32_w]
            rfl
          refine take_ (i:=6) (N:=some 13) (v:=?_) (a':=?_) #[true,true,false,false,false,true,true,false,false,false] rfl rfl (take_ofW HT_.out HW_.out (by kernel_rfl)) (fun _ _ _ h=>h) (Or.inl ⟨by rfl,?_⟩) hHeld ?_ ?_
          rotate_left
          · rintro w' ⟨s0,s1,s2,s3,s4,s5,s6,s7,s8⟩
            go_simp
            with_reducible rfl
          rotate_left
          · simp only [Act.put,List.setIfInBounds_toArray,List.set_cons_zero,List.set_cons_succ,i64_w,i32_w]
            rfl
          refine one_ (i:=2) (N:=some 9) #[true,true,true,false,false,true,true,false,false,false] rfl rfl (one_of HT_.out (by kernel_rfl)) (by decide) (fun K hK=>?_)
          refine goes_ Tryz.func60 (by kernel_rfl) rfl #[.int .i64 a0_4] (by rfl) rfl rfl (by (try simp only [List.map_toArray,List.map_cons,List.map_nil]);first|done|rfl|(simp only [List.length_drop,List.length_take];rfl)) ?_
          with_reducible refine (spec_l1Dec.calls k a0_4 t108 _ A3.out).mono ?_
          rintro e w11 ⟨rfl,hb⟩
          refine ⟨_,rfl,?_⟩
          have n0_:=Aside0.mk (blk_below (g:=gb107) (o:=.cells #[.int .i64 a0_0,.int .i64 a0_1,.string a0_2,.string a0_3,.int .i64 a0_4,.string a0_5,.string a0_6,.slice A0_7 l0_7.length c0_7,.slice A0_8 l0_8.length c0_8] 30 (0,0)) (by (with_reducible repeat (first|refine blk_drewN ?_ _|refine blk_drew ?_|refine blk_alloc ?_ _));exact BK107.out) hb)
          have n1_:=Aside0.mk (below_step (by repeat (first|(with_reducible first|exact HB.out|apply below_alloc|apply pw_below_drewN|apply below_drew1|refine below_set ?_ GE107.out)|exact HB.out)) hb)
          clear BK107
          clear HB
          have BK107:=n0_
          have HB:=n1_
          clear n0_ n1_
          (try clear hb)
          (try clear hb2)
          (try clear hk)
          (try clear hi)
          refine hK.out _ _ ⟨(blk_cell BK107.out 0).trans rfl,(blk_cell BK107.out 1).trans rfl,(blk_cell BK107.out 2).trans rfl,(blk_cell BK107.out 3).trans rfl,(blk_cell BK107.out 4).trans rfl,(blk_cell BK107.out 5).trans rfl,(blk_cell BK107.out 6).trans rfl,(blk_cell BK107.out 7).trans rfl,(blk_cell BK107.out 8).trans rfl⟩ (fun hHeld=>?_)
          clear hK K
          refine norm_ (a':=?_) ?_ ?_
          rotate_left
          · show Act.put _ (some 9) _=_
            simp only [Act.put,List.setIfInBounds_toArray,List.set_cons_zero,List.set_cons_succ,i64_w,i32_w]
            rfl
          refine pure_ (i:=3) (N:=some 10) (v:=?_) (a':=?_) #[true,true,true,true,false,true,true,false,false,false] rfl rfl (any_of HT_.out (by kernel_rfl)) (fun _ _ _ h=>h) (Or.inl ⟨by rfl,?_⟩) ?_ ?_
          rotate_left
          · intro w'
            go_simp
            with_reducible rfl
          rotate_left
          · simp only [Act.put,List.setIfInBounds_toArray,List.set_cons_zero,List.set_cons_succ,i64_w,i32_w]
            rfl
          refine pure_ (i:=4) (N:=some 11) (v:=?_) (a':=?_) #[true,true,true,true,true,true,true,false,false,false] rfl rfl (any_of HT_.out (by kernel_rfl)) (fun _ _ _ h=>h) (Or.inl ⟨by rfl,?_⟩) ?_ ?_
          rotate_left
          · intro w'
            go_simp
            with_reducible rfl
          rotate_left
          · simp only [Act.put,List.setIfInBounds_toArray,List.set_cons_zero,List.set_cons_succ,i64_w,i32_w]
            rfl
          refine one_ (i:=7) (N:=some 14) #[true,true,true,true,true,true,true,true,false,false] rfl rfl (one_of HT_.out (by kernel_rfl)) (by decide) (fun K hK=>?_)
          refine goes_ Tryz.func61 (by kernel_rfl) rfl #[.agg #[.string a0_5,.string a0_6,.slice A0_7 l0_7.length c0_7,.slice A0_8 l0_8.length c0_8]] (by rfl) rfl rfl (by (try simp only [List.map_toArray,List.map_cons,List.map_nil]);first|done|rfl|(simp only [List.length_drop,List.length_take];rfl)) ?_
          with_reducible refine (spec_l2Put.calls k a0_5 a0_6 _ _ l0_7 _ _ l0_8 t109 _ ?side1 ?side2 ?side3 ?side4 A6.out).mono ?_
          (case side1=>repeat (first|exact (Kd.C_below HR0_7.out HB.out)|(with_reducible refine Kd.C_alloc ?_ _)|(with_reducible refine Kd.C_drewN ?_ _)|(with_reducible refine Kd.C_drew ?_)))
          (case side2=>exact HC0_7.out)
          (case side3=>repeat (first|exact (Kd.C_below HR0_8.out HB.out)|(with_reducible refine Kd.C_alloc ?_ _)|(with_reducible refine Kd.C_drewN ?_ _)|(with_reducible refine Kd.C_drew ?_)))
          (case side4=>exact HC0_8.out)
          rintro e w12 ⟨rfl,hb⟩
          refine ⟨_,rfl,?_⟩
          have n0_:=Aside0.mk (blk_below (g:=gb107) (o:=.cells #[.int .i64 a0_0,.int .i64 a0_1,.string a0_2,.string a0_3,.int .i64 a0_4,.string a0_5,.string a0_6,.slice A0_7 l0_7.length c0_7,.slice A0_8 l0_8.length c0_8] 30 (0,0)) (by (with_reducible repeat (first|refine blk_drewN ?_ _|refine blk_drew ?_|refine blk_alloc ?_ _));exact BK107.out) hb)
          have n1_:=Aside0.mk (below_step (by repeat (first|(with_reducible first|exact HB.out|apply below_alloc|apply pw_below_drewN|apply below_drew1|refine below_set ?_ GE107.out)|exact HB.out)) hb)
          clear BK107
          clear HB
          have BK107:=n0_
          have HB:=n1_
          clear n0_ n1_
          (try clear hb)
          (try clear hb2)
          (try clear hk)
          (try clear hi)
          refine hK.out _ _ ⟨(blk_cell BK107.out 0).trans rfl,(blk_cell BK107.out 1).trans rfl,(blk_cell BK107.out 2).trans rfl,(blk_cell BK107.out 3).trans rfl,(blk_cell BK107.out 4).trans rfl,(blk_cell BK107.out 5).trans rfl,(blk_cell BK107.out 6).trans rfl,(blk_cell BK107.out 7).trans rfl,(blk_cell BK107.out 8).trans rfl⟩ (fun hHeld=>?_)
          clear hK K
          refine norm_ (a':=?_) ?_ ?_
          rotate_left
          · show Act.put _ (some 14) _=_
            simp only [Act.put,List.setIfInBounds_toArray,List.set_cons_zero,List.set_cons_succ,i64_w,i32_w]
            rfl
          refine pure_ (i:=8) (N:=some 15) (v:=?_) (a':=?_) #[true,true,true,true,true,true,true,true,true,false] rfl rfl (any_of HT_.out (by kernel_rfl)) (fun _ _ _ h=>h) (Or.inl ⟨by rfl,?_⟩) ?_ ?_
          rotate_left
          · intro w'
            go_simp
            with_reducible rfl
          rotate_left
          · simp only [Act.put,List.setIfInBounds_toArray,List.set_cons_zero,List.set_cons_succ,i64_w,i32_w]
            rfl
          refine pure_ (i:=9) (N:=some 2) (v:=?_) (a':=?_) #[true,true,true,true,true,true,true,true,true,true] rfl rfl (any_of HT_.out (by kernel_rfl)) (fun _ _ _ h=>h) (Or.inl ⟨by rfl,?_⟩) ?_ ?_
          rotate_left
          · intro w'
            go_simp
            with_reducible rfl
          rotate_left
          · simp only [Act.put,List.setIfInBounds_toArray,List.set_cons_zero,List.set_cons_succ,i64_w,i32_w]
            rfl
          refine done_ (done_of HT_.out (by kernel_rfl)) ?_
          try go_wp2
          go_ret
          exact ⟨by first|rfl|(simp [errW_none,errW_some]<;>rfl)|(simp [*,errW_none,errW_some]<;>rfl),by repeat (first|(with_reducible first|exact HB.out|apply below_alloc|apply pw_below_drewN|apply below_drew1|refine below_set ?_ GE107.out)|exact HB.out)⟩
        · rw [if_neg c7] at H
          exact absurd H (by simp)
      · rw [if_neg c5] at H
        exact absurd H (by simp)
    · rw [if_neg c4] at H
      exact absurd H (by simp)
  · rw [if_neg c2] at H
    have c2b0:(a0_0==1)=false:=beq_eq_false_iff_ne.mpr c2
    have c2b1:(a0_0 != 1)=true:=bne_iff_ne.mpr c2
    by_cases c13:a0_0=2
    · rw [if_pos c13] at H
      have c13b0:(a0_0==2)=true:=beq_iff_eq.mpr c13
      have c13b1:(a0_0 != 2)=false:=bne_eq_false_iff_eq.mpr c13
      clear c13
      replace H:=Option.bind_eq_some_iff.mp H
      obtain ⟨t110,A140,H⟩:=H
      replace H:(if 5+t110.size≤9223372036854775807 then (if ((⟨#[100,111,110,101,32]⟩:ByteArray)++t110).size+1≤9223372036854775807 then ((spec_l1Put.f a0_2 a0_3).bind fun t111=>(if (((⟨#[100,111,110,101,32]⟩:ByteArray)++t110)++(⟨#[32]⟩:ByteArray)).size+t111.size≤9223372036854775807 then (some ((((⟨#[100,111,110,101,32]⟩:ByteArray)++t110)++(⟨#[32]⟩:ByteArray))++t111)) else (none))) else (none)) else (none))=some r:=H
      have A14:=Aside0.mk A140
      clear A140
      by_cases c15:5+t110.size≤9223372036854775807
      · rw [if_pos c15] at H
        have c15b0:=eq_true c15
        have c15b1:decide (5+t110.size≤9223372036854775807)=true:=decide_eq_true c15
        try have c15b2:(9223372036854775807 < 5+t110.size)=False:=eq_false (Nat.not_lt.2 c15)
        by_cases c16:((⟨#[100,111,110,101,32]⟩:ByteArray)++t110).size+1≤9223372036854775807
        · rw [if_pos c16] at H
          have c16b0:=eq_true c16
          have c16b1:decide (((⟨#[100,111,110,101,32]⟩:ByteArray)++t110).size+1≤9223372036854775807)=true:=decide_eq_true c16
          try have c16b2:(9223372036854775807 < ((⟨#[100,111,110,101,32]⟩:ByteArray)++t110).size+1)=False:=eq_false (Nat.not_lt.2 c16)
          try have c16b3:=c16
          try simp only [ByteArray.size_append',sz1,sz2,sz3,sz4,sz5,sz6,sz7,sz8] at c16b3
          try have c16b4:=eq_true c16b3
          try have c16b5:=eq_false (Nat.not_lt.2 c16b3)
          replace H:=Option.bind_eq_some_iff.mp H
          obtain ⟨t111,A170,H⟩:=H
          replace H:(if (((⟨#[100,111,110,101,32]⟩:ByteArray)++t110)++(⟨#[32]⟩:ByteArray)).size+t111.size≤9223372036854775807 then (some ((((⟨#[100,111,110,101,32]⟩:ByteArray)++t110)++(⟨#[32]⟩:ByteArray))++t111)) else (none))=some r:=H
          have A17:=Aside0.mk A170
          clear A170
          by_cases c18:(((⟨#[100,111,110,101,32]⟩:ByteArray)++t110)++(⟨#[32]⟩:ByteArray)).size+t111.size≤9223372036854775807
          · rw [if_pos c18] at H
            have c18b0:=eq_true c18
            have c18b1:decide ((((⟨#[100,111,110,101,32]⟩:ByteArray)++t110)++(⟨#[32]⟩:ByteArray)).size+t111.size≤9223372036854775807)=true:=decide_eq_true c18
            try have c18b2:(9223372036854775807 < (((⟨#[100,111,110,101,32]⟩:ByteArray)++t110)++(⟨#[32]⟩:ByteArray)).size+t111.size)=False:=eq_false (Nat.not_lt.2 c18)
            try have c18b3:=c18
            try simp only [ByteArray.size_append',sz1,sz2,sz3,sz4,sz5,sz6,sz7,sz8] at c18b3
            try have c18b4:=eq_true c18b3
            try have c18b5:=eq_false (Nat.not_lt.2 c18b3)
            obtain rfl:=Option.some.inj H
            go_enter Tryz.func26,Tryz.ntmps26
            try go_wp2_with (first|((with_reducible refine gate_dst (N:=1) rfl ?_);refine box_event ?hg (N:=1) ?hd (cs:=#[.int .i64 a0_0,.int .i64 a0_1,.string a0_2,.string a0_3,.int .i64 a0_4,.string a0_5,.string a0_6,.slice A0_7 l0_7.length c0_7,.slice A0_8 l0_8.length c0_8]) (t:=30) ?hr ?_;(case hd=>rfl);(case hg=>rfl);(case hr=>first|(go_simp;done)|(go_simp;rfl));intro gb107 hg w19 hbox hb;have n0_:=Aside0.mk (below_step (by repeat (first|(with_reducible first|exact HB.out|apply below_alloc|apply pw_below_drewN|apply below_drew1)|exact HB.out)) hb);have n1_:=Aside0.mk (hbox);have n2_:=Aside0.mk ((by rw [hg];exact (below_size (by repeat (first|(with_reducible first|exact HB.out|apply below_alloc|apply pw_below_drewN|apply below_drew1)|exact HB.out))):w.heap.size≤gb107));have n3_:=Aside0.mk ((by rw [hg];exact (below_size (by repeat (first|(with_reducible first|exact HB.out|apply below_alloc|apply pw_below_drewN|apply below_drew1)|exact HB.out))):w.heap.size≤gb107));clear HB;have HB:=n0_;have BK107:=n1_;have GW107:=n2_;have GE107:=n3_;clear n0_ n1_ n2_ n3_;clear hb hbox hg;have hcz20_0:w19.cell? ⟨gb107,0,none⟩=some (.int .i64 a0_0):=(blk_cell BK107.out 0).trans rfl;have hcz20_1:w19.cell? ⟨gb107,1,none⟩=some (.int .i64 a0_1):=(blk_cell BK107.out 1).trans rfl;have hcz20_2:w19.cell? ⟨gb107,2,none⟩=some (.string a0_2):=(blk_cell BK107.out 2).trans rfl;have hcz20_3:w19.cell? ⟨gb107,3,none⟩=some (.string a0_3):=(blk_cell BK107.out 3).trans rfl;have hcz20_4:w19.cell? ⟨gb107,4,none⟩=some (.int .i64 a0_4):=(blk_cell BK107.out 4).trans rfl;have hcz20_5:w19.cell? ⟨gb107,5,none⟩=some (.string a0_5):=(blk_cell BK107.out 5).trans rfl;have hcz20_6:w19.cell? ⟨gb107,6,none⟩=some (.string a0_6):=(blk_cell BK107.out 6).trans rfl;have hcz20_7:w19.cell? ⟨gb107,7,none⟩=some (.slice A0_7 l0_7.length c0_7):=(blk_cell BK107.out 7).trans rfl;have hcz20_8:w19.cell? ⟨gb107,8,none⟩=some (.slice A0_8 l0_8.length c0_8):=(blk_cell BK107.out 8).trans rfl;have hfz20_0:=blk_frozen BK107.out 0;have hfz20_1:=blk_frozen BK107.out 1;have hfz20_2:=blk_frozen BK107.out 2;have hfz20_3:=blk_frozen BK107.out 3;have hfz20_4:=blk_frozen BK107.out 4;have hfz20_5:=blk_frozen BK107.out 5;have hfz20_6:=blk_frozen BK107.out 6;have hfz20_7:=blk_frozen BK107.out 7;have hfz20_8:=blk_frozen BK107.out 8))
            have n0_:=Aside0.mk (blk_drew BK107.out)
            have n1_:=Aside0.mk (below_drew1 HB.out)
            clear BK107
            clear HB
            have BK107:=n0_
            have HB:=n1_
            clear n0_ n1_
            refine start_ (n:=10) (S:=fun w'=>w'.cell? ⟨gb107,0,none⟩=some (.int .i64 a0_0)∧w'.cell? ⟨gb107,1,none⟩=some (.int .i64 a0_1)∧w'.cell? ⟨gb107,2,none⟩=some (.string a0_2)∧w'.cell? ⟨gb107,3,none⟩=some (.string a0_3)∧w'.cell? ⟨gb107,4,none⟩=some (.int .i64 a0_4)∧w'.cell? ⟨gb107,5,none⟩=some (.string a0_5)∧w'.cell? ⟨gb107,6,none⟩=some (.string a0_6)∧w'.cell? ⟨gb107,7,none⟩=some (.slice A0_7 l0_7.length c0_7)∧w'.cell? ⟨gb107,8,none⟩=some (.slice A0_8 l0_8.length c0_8)) (ds:=[]) #[false,false,false,false,false,false,false,false,false,false] (by kernel_rfl) rfl rfl ⟨(blk_cell BK107.out 0).trans rfl,(blk_cell BK107.out 1).trans rfl,(blk_cell BK107.out 2).trans rfl,(blk_cell BK107.out 3).trans rfl,(blk_cell BK107.out 4).trans rfl,(blk_cell BK107.out 5).trans rfl,(blk_cell BK107.out 6).trans rfl,(blk_cell BK107.out 7).trans rfl,(blk_cell BK107.out 8).trans rfl⟩ (fun hHeld=>?_);refine with_tabW spec_l6Body.tab5 spec_l6Body.bits5 (fun HT_ HW_=>?_)
            generalize w19.drew=w21 at BK107 HB hHeld ⊢
            refine pure_ (i:=0) (N:=some 18) (v:=?_) (a':=?_) #[true,false,false,false,false,false,false,false,false,false] rfl rfl (any_of HT_.out (by kernel_rfl)) (fun _ _ _ h=>h) (Or.inl ⟨by rfl,?_⟩) ?_ ?_
            rotate_left
            · intro w'
              go_simp
              with_reducible rfl
            rotate_left
            · simp only [Act.put,List.setIfInBounds_toArray,List.set_cons_zero,List.set_cons_succ,i64_w,i32_w]
              rfl
            refine pure_ (i:=5) (N:=some 23) (v:=?_) (a':=?_) #[true,false,false,false,false,true,false,false,false,false] rfl rfl (any_of HT_.out (by kernel_rfl)) (fun _ _ _ h=>h) (Or.inl ⟨by rfl,?_⟩) ?_ ?_
            rotate_left
            · intro w'
              go_simp
              with_reducible rfl
            rotate_left
            · simp only [Act.put,List.setIfInBounds_toArray,List.set_cons_zero,List.set_cons_succ,i64_w,i32_w]
              rfl
            refine take_ (i:=1) (N:=some 19) (v:=?_) (a':=?_) #[true,true,false,false,false,true,false,false,false,false] rfl rfl (take_ofW HT_.out HW_.out (by kernel_rfl)) (fun _ _ _ h=>h) (Or.inl ⟨by rfl,?_⟩) hHeld ?_ ?_
            rotate_left
            · rintro w' ⟨s0,s1,s2,s3,s4,s5,s6,s7,s8⟩
              go_simp
              with_reducible rfl
            rotate_left
            · simp only [Act.put,List.setIfInBounds_toArray,List.set_cons_zero,List.set_cons_succ,i64_w,i32_w]
              rfl
            refine take_ (i:=6) (N:=some 24) (v:=?_) (a':=?_) #[true,true,false,false,false,true,true,false,false,false] rfl rfl (take_ofW HT_.out HW_.out (by kernel_rfl)) (fun _ _ _ h=>h) (Or.inl ⟨by rfl,?_⟩) hHeld ?_ ?_
            rotate_left
            · rintro w' ⟨s0,s1,s2,s3,s4,s5,s6,s7,s8⟩
              go_simp
              with_reducible rfl
            rotate_left
            · simp only [Act.put,List.setIfInBounds_toArray,List.set_cons_zero,List.set_cons_succ,i64_w,i32_w]
              rfl
            refine one_ (i:=2) (N:=some 20) #[true,true,true,false,false,true,true,false,false,false] rfl rfl (one_of HT_.out (by kernel_rfl)) (by decide) (fun K hK=>?_)
            refine goes_ Tryz.func60 (by kernel_rfl) rfl #[.int .i64 a0_1] (by rfl) rfl rfl (by (try simp only [List.map_toArray,List.map_cons,List.map_nil]);first|done|rfl|(simp only [List.length_drop,List.length_take];rfl)) ?_
            with_reducible refine (spec_l1Dec.calls k a0_1 t110 _ A14.out).mono ?_
            rintro e w22 ⟨rfl,hb⟩
            refine ⟨_,rfl,?_⟩
            have n0_:=Aside0.mk (blk_below (g:=gb107) (o:=.cells #[.int .i64 a0_0,.int .i64 a0_1,.string a0_2,.string a0_3,.int .i64 a0_4,.string a0_5,.string a0_6,.slice A0_7 l0_7.length c0_7,.slice A0_8 l0_8.length c0_8] 30 (0,0)) (by (with_reducible repeat (first|refine blk_drewN ?_ _|refine blk_drew ?_|refine blk_alloc ?_ _));exact BK107.out) hb)
            have n1_:=Aside0.mk (below_step (by repeat (first|(with_reducible first|exact HB.out|apply below_alloc|apply pw_below_drewN|apply below_drew1|refine below_set ?_ GE107.out)|exact HB.out)) hb)
            clear BK107
            clear HB
            have BK107:=n0_
            have HB:=n1_
            clear n0_ n1_
            (try clear hb)
            (try clear hb2)
            (try clear hk)
            (try clear hi)
            refine hK.out _ _ ⟨(blk_cell BK107.out 0).trans rfl,(blk_cell BK107.out 1).trans rfl,(blk_cell BK107.out 2).trans rfl,(blk_cell BK107.out 3).trans rfl,(blk_cell BK107.out 4).trans rfl,(blk_cell BK107.out 5).trans rfl,(blk_cell BK107.out 6).trans rfl,(blk_cell BK107.out 7).trans rfl,(blk_cell BK107.out 8).trans rfl⟩ (fun hHeld=>?_)
            clear hK K
            refine norm_ (a':=?_) ?_ ?_
            rotate_left
            · show Act.put _ (some 20) _=_
              simp only [Act.put,List.setIfInBounds_toArray,List.set_cons_zero,List.set_cons_succ,i64_w,i32_w]
              rfl
            refine pure_ (i:=3) (N:=some 21) (v:=?_) (a':=?_) #[true,true,true,true,false,true,true,false,false,false] rfl rfl (any_of HT_.out (by kernel_rfl)) (fun _ _ _ h=>h) (Or.inl ⟨by rfl,?_⟩) ?_ ?_
            rotate_left
            · intro w'
              go_simp
              with_reducible rfl
            rotate_left
            · simp only [Act.put,List.setIfInBounds_toArray,List.set_cons_zero,List.set_cons_succ,i64_w,i32_w]
              rfl
            refine pure_ (i:=4) (N:=some 22) (v:=?_) (a':=?_) #[true,true,true,true,true,true,true,false,false,false] rfl rfl (any_of HT_.out (by kernel_rfl)) (fun _ _ _ h=>h) (Or.inl ⟨by rfl,?_⟩) ?_ ?_
            rotate_left
            · intro w'
              go_simp
              with_reducible rfl
            rotate_left
            · simp only [Act.put,List.setIfInBounds_toArray,List.set_cons_zero,List.set_cons_succ,i64_w,i32_w]
              rfl
            refine one_ (i:=7) (N:=some 25) #[true,true,true,true,true,true,true,true,false,false] rfl rfl (one_of HT_.out (by kernel_rfl)) (by decide) (fun K hK=>?_)
            refine goes_ Tryz.func62 (by kernel_rfl) rfl #[.agg #[.string a0_2,.string a0_3]] (by rfl) rfl rfl (by (try simp only [List.map_toArray,List.map_cons,List.map_nil]);first|done|rfl|(simp only [List.length_drop,List.length_take];rfl)) ?_
            with_reducible refine (spec_l1Put.calls a0_2 a0_3 t111 _ A17.out).mono ?_
            rintro e w23 ⟨rfl,hb⟩
            refine ⟨_,rfl,?_⟩
            have n0_:=Aside0.mk (blk_below (g:=gb107) (o:=.cells #[.int .i64 a0_0,.int .i64 a0_1,.string a0_2,.string a0_3,.int .i64 a0_4,.string a0_5,.string a0_6,.slice A0_7 l0_7.length c0_7,.slice A0_8 l0_8.length c0_8] 30 (0,0)) (by (with_reducible repeat (first|refine blk_drewN ?_ _|refine blk_drew ?_|refine blk_alloc ?_ _));exact BK107.out) hb)
            have n1_:=Aside0.mk (below_step (by repeat (first|(with_reducible first|exact HB.out|apply below_alloc|apply pw_below_drewN|apply below_drew1|refine below_set ?_ GE107.out)|exact HB.out)) hb)
            clear BK107
            clear HB
            have BK107:=n0_
            have HB:=n1_
            clear n0_ n1_
            (try clear hb)
            (try clear hb2)
            (try clear hk)
            (try clear hi)
            refine hK.out _ _ ⟨(blk_cell BK107.out 0).trans rfl,(blk_cell BK107.out 1).trans rfl,(blk_cell BK107.out 2).trans rfl,(blk_cell BK107.out 3).trans rfl,(blk_cell BK107.out 4).trans rfl,(blk_cell BK107.out 5).trans rfl,(blk_cell BK107.out 6).trans rfl,(blk_cell BK107.out 7).trans rfl,(blk_cell BK107.out 8).trans rfl⟩ (fun hHeld=>?_)
            clear hK K
            refine norm_ (a':=?_) ?_ ?_
            rotate_left
            · show Act.put _ (some 25) _=_
              simp only [Act.put,List.setIfInBounds_toArray,List.set_cons_zero,List.set_cons_succ,i64_w,i32_w]
              rfl
            refine pure_ (i:=8) (N:=some 26) (v:=?_) (a':=?_) #[true,true,true,true,true,true,true,true,true,false] rfl rfl (any_of HT_.out (by kernel_rfl)) (fun _ _ _ h=>h) (Or.inl ⟨by rfl,?_⟩) ?_ ?_
            rotate_left
            · intro w'
              go_simp
              with_reducible rfl
            rotate_left
            · simp only [Act.put,List.setIfInBounds_toArray,List.set_cons_zero,List.set_cons_succ,i64_w,i32_w]
              rfl
            refine pure_ (i:=9) (N:=some 2) (v:=?_) (a':=?_) #[true,true,true,true,true,true,true,true,true,true] rfl rfl (any_of HT_.out (by kernel_rfl)) (fun _ _ _ h=>h) (Or.inl ⟨by rfl,?_⟩) ?_ ?_
            rotate_left
            · intro w'
              go_simp
              with_reducible rfl
            rotate_left
            · simp only [Act.put,List.setIfInBounds_toArray,List.set_cons_zero,List.set_cons_succ,i64_w,i32_w]
              rfl
            refine done_ (done_of HT_.out (by kernel_rfl)) ?_
            try go_wp2
            go_ret
            exact ⟨by first|rfl|(simp [errW_none,errW_some]<;>rfl)|(simp [*,errW_none,errW_some]<;>rfl),by repeat (first|(with_reducible first|exact HB.out|apply below_alloc|apply pw_below_drewN|apply below_drew1|refine below_set ?_ GE107.out)|exact HB.out)⟩
          · rw [if_neg c18] at H
            exact absurd H (by simp)
        · rw [if_neg c16] at H
          exact absurd H (by simp)
      · rw [if_neg c15] at H
        exact absurd H (by simp)
    · rw [if_neg c13] at H
      have c13b0:(a0_0==2)=false:=beq_eq_false_iff_ne.mpr c13
      have c13b1:(a0_0 != 2)=true:=bne_iff_ne.mpr c13
      replace H:=Option.bind_eq_some_iff.mp H
      obtain ⟨t112,A240,H⟩:=H
      replace H:(if 6+t112.size≤9223372036854775807 then (if ((⟨#[108,97,116,101,114,32]⟩:ByteArray)++t112).size+1≤9223372036854775807 then ((spec_l1Put.f a0_2 a0_3).bind fun t113=>(if (((⟨#[108,97,116,101,114,32]⟩:ByteArray)++t112)++(⟨#[32]⟩:ByteArray)).size+t113.size≤9223372036854775807 then (if ((((⟨#[108,97,116,101,114,32]⟩:ByteArray)++t112)++(⟨#[32]⟩:ByteArray))++t113).size+1≤9223372036854775807 then ((spec_l1Dec.f k a0_4).bind fun t114=>(if (((((⟨#[108,97,116,101,114,32]⟩:ByteArray)++t112)++(⟨#[32]⟩:ByteArray))++t113)++(⟨#[32]⟩:ByteArray)).size+t114.size≤9223372036854775807 then (some ((((((⟨#[108,97,116,101,114,32]⟩:ByteArray)++t112)++(⟨#[32]⟩:ByteArray))++t113)++(⟨#[32]⟩:ByteArray))++t114)) else (none))) else (none)) else (none))) else (none)) else (none))=some r:=H
      have A24:=Aside0.mk A240
      clear A240
      by_cases c25:6+t112.size≤9223372036854775807
      · rw [if_pos c25] at H
        have c25b0:=eq_true c25
        have c25b1:decide (6+t112.size≤9223372036854775807)=true:=decide_eq_true c25
        try have c25b2:(9223372036854775807 < 6+t112.size)=False:=eq_false (Nat.not_lt.2 c25)
        by_cases c26:((⟨#[108,97,116,101,114,32]⟩:ByteArray)++t112).size+1≤9223372036854775807
        · rw [if_pos c26] at H
          have c26b0:=eq_true c26
          have c26b1:decide (((⟨#[108,97,116,101,114,32]⟩:ByteArray)++t112).size+1≤9223372036854775807)=true:=decide_eq_true c26
          try have c26b2:(9223372036854775807 < ((⟨#[108,97,116,101,114,32]⟩:ByteArray)++t112).size+1)=False:=eq_false (Nat.not_lt.2 c26)
          try have c26b3:=c26
          try simp only [ByteArray.size_append',sz1,sz2,sz3,sz4,sz5,sz6,sz7,sz8] at c26b3
          try have c26b4:=eq_true c26b3
          try have c26b5:=eq_false (Nat.not_lt.2 c26b3)
          replace H:=Option.bind_eq_some_iff.mp H
          obtain ⟨t113,A270,H⟩:=H
          replace H:(if (((⟨#[108,97,116,101,114,32]⟩:ByteArray)++t112)++(⟨#[32]⟩:ByteArray)).size+t113.size≤9223372036854775807 then (if ((((⟨#[108,97,116,101,114,32]⟩:ByteArray)++t112)++(⟨#[32]⟩:ByteArray))++t113).size+1≤9223372036854775807 then ((spec_l1Dec.f k a0_4).bind fun t114=>(if (((((⟨#[108,97,116,101,114,32]⟩:ByteArray)++t112)++(⟨#[32]⟩:ByteArray))++t113)++(⟨#[32]⟩:ByteArray)).size+t114.size≤9223372036854775807 then (some ((((((⟨#[108,97,116,101,114,32]⟩:ByteArray)++t112)++(⟨#[32]⟩:ByteArray))++t113)++(⟨#[32]⟩:ByteArray))++t114)) else (none))) else (none)) else (none))=some r:=H
          have A27:=Aside0.mk A270
          clear A270
          by_cases c28:(((⟨#[108,97,116,101,114,32]⟩:ByteArray)++t112)++(⟨#[32]⟩:ByteArray)).size+t113.size≤9223372036854775807
          · rw [if_pos c28] at H
            have c28b0:=eq_true c28
            have c28b1:decide ((((⟨#[108,97,116,101,114,32]⟩:ByteArray)++t112)++(⟨#[32]⟩:ByteArray)).size+t113.size≤9223372036854775807)=true:=decide_eq_true c28
            try have c28b2:(9223372036854775807 < (((⟨#[108,97,116,101,114,32]⟩:ByteArray)++t112)++(⟨#[32]⟩:ByteArray)).size+t113.size)=False:=eq_false (Nat.not_lt.2 c28)
            try have c28b3:=c28
            try simp only [ByteArray.size_append',sz1,sz2,sz3,sz4,sz5,sz6,sz7,sz8] at c28b3
            try have c28b4:=eq_true c28b3
            try have c28b5:=eq_false (Nat.not_lt.2 c28b3)
            by_cases c29:((((⟨#[108,97,116,101,114,32]⟩:ByteArray)++t112)++(⟨#[32]⟩:ByteArray))++t113).size+1≤9223372036854775807
            · rw [if_pos c29] at H
              have c29b0:=eq_true c29
              have c29b1:decide (((((⟨#[108,97,116,101,114,32]⟩:ByteArray)++t112)++(⟨#[32]⟩:ByteArray))++t113).size+1≤9223372036854775807)=true:=decide_eq_true c29
              try have c29b2:(9223372036854775807 < ((((⟨#[108,97,116,101,114,32]⟩:ByteArray)++t112)++(⟨#[32]⟩:ByteArray))++t113).size+1)=False:=eq_false (Nat.not_lt.2 c29)
              try have c29b3:=c29
              try simp only [ByteArray.size_append',sz1,sz2,sz3,sz4,sz5,sz6,sz7,sz8] at c29b3
              try have c29b4:=eq_true c29b3
              try have c29b5:=eq_false (Nat.not_lt.2 c29b3)
              replace H:=Option.bind_eq_some_iff.mp H
              obtain ⟨t114,A300,H⟩:=H
              replace H:(if (((((⟨#[108,97,116,101,114,32]⟩:ByteArray)++t112)++(⟨#[32]⟩:ByteArray))++t113)++(⟨#[32]⟩:ByteArray)).size+t114.size≤9223372036854775807 then (some ((((((⟨#[108,97,116,101,114,32]⟩:ByteArray)++t112)++(⟨#[32]⟩:ByteArray))++t113)++(⟨#[32]⟩:ByteArray))++t114)) else (none))=some r:=H
              have A30:=Aside0.mk A300
              clear A300
              by_cases c31:(((((⟨#[108,97,116,101,114,32]⟩:ByteArray)++t112)++(⟨#[32]⟩:ByteArray))++t113)++(⟨#[32]⟩:ByteArray)).size+t114.size≤9223372036854775807
              · rw [if_pos c31] at H
                have c31b0:=eq_true c31
                have c31b1:decide ((((((⟨#[108,97,116,101,114,32]⟩:ByteArray)++t112)++(⟨#[32]⟩:ByteArray))++t113)++(⟨#[32]⟩:ByteArray)).size+t114.size≤9223372036854775807)=true:=decide_eq_true c31
                try have c31b2:(9223372036854775807 < (((((⟨#[108,97,116,101,114,32]⟩:ByteArray)++t112)++(⟨#[32]⟩:ByteArray))++t113)++(⟨#[32]⟩:ByteArray)).size+t114.size)=False:=eq_false (Nat.not_lt.2 c31)
                try have c31b3:=c31
                try simp only [ByteArray.size_append',sz1,sz2,sz3,sz4,sz5,sz6,sz7,sz8] at c31b3
                try have c31b4:=eq_true c31b3
                try have c31b5:=eq_false (Nat.not_lt.2 c31b3)
                obtain rfl:=Option.some.inj H
                go_enter Tryz.func26,Tryz.ntmps26
                try go_wp2_with (first|((with_reducible refine gate_dst (N:=1) rfl ?_);refine box_event ?hg (N:=1) ?hd (cs:=#[.int .i64 a0_0,.int .i64 a0_1,.string a0_2,.string a0_3,.int .i64 a0_4,.string a0_5,.string a0_6,.slice A0_7 l0_7.length c0_7,.slice A0_8 l0_8.length c0_8]) (t:=30) ?hr ?_;(case hd=>rfl);(case hg=>rfl);(case hr=>first|(go_simp;done)|(go_simp;rfl));intro gb107 hg w32 hbox hb;have n0_:=Aside0.mk (below_step (by repeat (first|(with_reducible first|exact HB.out|apply below_alloc|apply pw_below_drewN|apply below_drew1)|exact HB.out)) hb);have n1_:=Aside0.mk (hbox);have n2_:=Aside0.mk ((by rw [hg];exact (below_size (by repeat (first|(with_reducible first|exact HB.out|apply below_alloc|apply pw_below_drewN|apply below_drew1)|exact HB.out))):w.heap.size≤gb107));have n3_:=Aside0.mk ((by rw [hg];exact (below_size (by repeat (first|(with_reducible first|exact HB.out|apply below_alloc|apply pw_below_drewN|apply below_drew1)|exact HB.out))):w.heap.size≤gb107));clear HB;have HB:=n0_;have BK107:=n1_;have GW107:=n2_;have GE107:=n3_;clear n0_ n1_ n2_ n3_;clear hb hbox hg;have hcz33_0:w32.cell? ⟨gb107,0,none⟩=some (.int .i64 a0_0):=(blk_cell BK107.out 0).trans rfl;have hcz33_1:w32.cell? ⟨gb107,1,none⟩=some (.int .i64 a0_1):=(blk_cell BK107.out 1).trans rfl;have hcz33_2:w32.cell? ⟨gb107,2,none⟩=some (.string a0_2):=(blk_cell BK107.out 2).trans rfl;have hcz33_3:w32.cell? ⟨gb107,3,none⟩=some (.string a0_3):=(blk_cell BK107.out 3).trans rfl;have hcz33_4:w32.cell? ⟨gb107,4,none⟩=some (.int .i64 a0_4):=(blk_cell BK107.out 4).trans rfl;have hcz33_5:w32.cell? ⟨gb107,5,none⟩=some (.string a0_5):=(blk_cell BK107.out 5).trans rfl;have hcz33_6:w32.cell? ⟨gb107,6,none⟩=some (.string a0_6):=(blk_cell BK107.out 6).trans rfl;have hcz33_7:w32.cell? ⟨gb107,7,none⟩=some (.slice A0_7 l0_7.length c0_7):=(blk_cell BK107.out 7).trans rfl;have hcz33_8:w32.cell? ⟨gb107,8,none⟩=some (.slice A0_8 l0_8.length c0_8):=(blk_cell BK107.out 8).trans rfl;have hfz33_0:=blk_frozen BK107.out 0;have hfz33_1:=blk_frozen BK107.out 1;have hfz33_2:=blk_frozen BK107.out 2;have hfz33_3:=blk_frozen BK107.out 3;have hfz33_4:=blk_frozen BK107.out 4;have hfz33_5:=blk_frozen BK107.out 5;have hfz33_6:=blk_frozen BK107.out 6;have hfz33_7:=blk_frozen BK107.out 7;have hfz33_8:=blk_frozen BK107.out 8))
                have n0_:=Aside0.mk (blk_drew BK107.out)
                have n1_:=Aside0.mk (below_drew1 HB.out)
                clear BK107
                clear HB
                have BK107:=n0_
                have HB:=n1_
                clear n0_ n1_
                refine start_ (n:=15) (S:=fun w'=>w'.cell? ⟨gb107,0,none⟩=some (.int .i64 a0_0)∧w'.cell? ⟨gb107,1,none⟩=some (.int .i64 a0_1)∧w'.cell? ⟨gb107,2,none⟩=some (.string a0_2)∧w'.cell? ⟨gb107,3,none⟩=some (.string a0_3)∧w'.cell? ⟨gb107,4,none⟩=some (.int .i64 a0_4)∧w'.cell? ⟨gb107,5,none⟩=some (.string a0_5)∧w'.cell? ⟨gb107,6,none⟩=some (.string a0_6)∧w'.cell? ⟨gb107,7,none⟩=some (.slice A0_7 l0_7.length c0_7)∧w'.cell? ⟨gb107,8,none⟩=some (.slice A0_8 l0_8.length c0_8)) (ds:=[]) #[false,false,false,false,false,false,false,false,false,false,false,false,false,false,false] (by kernel_rfl) rfl rfl ⟨(blk_cell BK107.out 0).trans rfl,(blk_cell BK107.out 1).trans rfl,(blk_cell BK107.out 2).trans rfl,(blk_cell BK107.out 3).trans rfl,(blk_cell BK107.out 4).trans rfl,(blk_cell BK107.out 5).trans rfl,(blk_cell BK107.out 6).trans rfl,(blk_cell BK107.out 7).trans rfl,(blk_cell BK107.out 8).trans rfl⟩ (fun hHeld=>?_);refine with_tabW spec_l6Body.tab6 spec_l6Body.bits6 (fun HT_ HW_=>?_)
                generalize w32.drew=w34 at BK107 HB hHeld ⊢
                refine pure_ (i:=0) (N:=some 27) (v:=?_) (a':=?_) #[true,false,false,false,false,false,false,false,false,false,false,false,false,false,false] rfl rfl (any_of HT_.out (by kernel_rfl)) (fun _ _ _ h=>h) (Or.inl ⟨by rfl,?_⟩) ?_ ?_
                rotate_left
                · intro w'
                  go_simp
                  with_reducible rfl
                rotate_left
                · simp only [Act.put,List.setIfInBounds_toArray,List.set_cons_zero,List.set_cons_succ,i64_w,i32_w]
                  rfl
                refine pure_ (i:=5) (N:=some 32) (v:=?_) (a':=?_) #[true,false,false,false,false,true,false,false,false,false,false,false,false,false,false] rfl rfl (any_of HT_.out (by kernel_rfl)) (fun _ _ _ h=>h) (Or.inl ⟨by rfl,?_⟩) ?_ ?_
                rotate_left
                · intro w'
                  go_simp
                  with_reducible rfl
                rotate_left
                · simp only [Act.put,List.setIfInBounds_toArray,List.set_cons_zero,List.set_cons_succ,i64_w,i32_w]
                  rfl
                refine pure_ (i:=10) (N:=some 37) (v:=?_) (a':=?_) #[true,false,false,false,false,true,false,false,false,false,true,false,false,false,false] rfl rfl (any_of HT_.out (by kernel_rfl)) (fun _ _ _ h=>h) (Or.inl ⟨by rfl,?_⟩) ?_ ?_
                rotate_left
                · intro w'
                  go_simp
                  with_reducible rfl
                rotate_left
                · simp only [Act.put,List.setIfInBounds_toArray,List.set_cons_zero,List.set_cons_succ,i64_w,i32_w]
                  rfl
                refine take_ (i:=1) (N:=some 28) (v:=?_) (a':=?_) #[true,true,false,false,false,true,false,false,false,false,true,false,false,false,false] rfl rfl (take_ofW HT_.out HW_.out (by kernel_rfl)) (fun _ _ _ h=>h) (Or.inl ⟨by rfl,?_⟩) hHeld ?_ ?_
                rotate_left
                · rintro w' ⟨s0,s1,s2,s3,s4,s5,s6,s7,s8⟩
                  go_simp
                  with_reducible rfl
                rotate_left
                · simp only [Act.put,List.setIfInBounds_toArray,List.set_cons_zero,List.set_cons_succ,i64_w,i32_w]
                  rfl
                refine take_ (i:=6) (N:=some 33) (v:=?_) (a':=?_) #[true,true,false,false,false,true,true,false,false,false,true,false,false,false,false] rfl rfl (take_ofW HT_.out HW_.out (by kernel_rfl)) (fun _ _ _ h=>h) (Or.inl ⟨by rfl,?_⟩) hHeld ?_ ?_
                rotate_left
                · rintro w' ⟨s0,s1,s2,s3,s4,s5,s6,s7,s8⟩
                  go_simp
                  with_reducible rfl
                rotate_left
                · simp only [Act.put,List.setIfInBounds_toArray,List.set_cons_zero,List.set_cons_succ,i64_w,i32_w]
                  rfl
                refine take_ (i:=11) (N:=some 38) (v:=?_) (a':=?_) #[true,true,false,false,false,true,true,false,false,false,true,true,false,false,false] rfl rfl (take_ofW HT_.out HW_.out (by kernel_rfl)) (fun _ _ _ h=>h) (Or.inl ⟨by rfl,?_⟩) hHeld ?_ ?_
                rotate_left
                · rintro w' ⟨s0,s1,s2,s3,s4,s5,s6,s7,s8⟩
                  go_simp
                  with_reducible rfl
                rotate_left
                · simp only [Act.put,List.setIfInBounds_toArray,List.set_cons_zero,List.set_cons_succ,i64_w,i32_w]
                  rfl
                refine one_ (i:=2) (N:=some 29) #[true,true,true,false,false,true,true,false,false,false,true,true,false,false,false] rfl rfl (one_of HT_.out (by kernel_rfl)) (by decide) (fun K hK=>?_)
                refine goes_ Tryz.func60 (by kernel_rfl) rfl #[.int .i64 a0_1] (by rfl) rfl rfl (by (try simp only [List.map_toArray,List.map_cons,List.map_nil]);first|done|rfl|(simp only [List.length_drop,List.length_take];rfl)) ?_
                with_reducible refine (spec_l1Dec.calls k a0_1 t112 _ A24.out).mono ?_
                rintro e w35 ⟨rfl,hb⟩
                refine ⟨_,rfl,?_⟩
                have n0_:=Aside0.mk (blk_below (g:=gb107) (o:=.cells #[.int .i64 a0_0,.int .i64 a0_1,.string a0_2,.string a0_3,.int .i64 a0_4,.string a0_5,.string a0_6,.slice A0_7 l0_7.length c0_7,.slice A0_8 l0_8.length c0_8] 30 (0,0)) (by (with_reducible repeat (first|refine blk_drewN ?_ _|refine blk_drew ?_|refine blk_alloc ?_ _));exact BK107.out) hb)
                have n1_:=Aside0.mk (below_step (by repeat (first|(with_reducible first|exact HB.out|apply below_alloc|apply pw_below_drewN|apply below_drew1|refine below_set ?_ GE107.out)|exact HB.out)) hb)
                clear BK107
                clear HB
                have BK107:=n0_
                have HB:=n1_
                clear n0_ n1_
                (try clear hb)
                (try clear hb2)
                (try clear hk)
                (try clear hi)
                refine hK.out _ _ ⟨(blk_cell BK107.out 0).trans rfl,(blk_cell BK107.out 1).trans rfl,(blk_cell BK107.out 2).trans rfl,(blk_cell BK107.out 3).trans rfl,(blk_cell BK107.out 4).trans rfl,(blk_cell BK107.out 5).trans rfl,(blk_cell BK107.out 6).trans rfl,(blk_cell BK107.out 7).trans rfl,(blk_cell BK107.out 8).trans rfl⟩ (fun hHeld=>?_)
                clear hK K
                refine norm_ (a':=?_) ?_ ?_
                rotate_left
                · show Act.put _ (some 29) _=_
                  simp only [Act.put,List.setIfInBounds_toArray,List.set_cons_zero,List.set_cons_succ,i64_w,i32_w]
                  rfl
                refine pure_ (i:=3) (N:=some 30) (v:=?_) (a':=?_) #[true,true,true,true,false,true,true,false,false,false,true,true,false,false,false] rfl rfl (any_of HT_.out (by kernel_rfl)) (fun _ _ _ h=>h) (Or.inl ⟨by rfl,?_⟩) ?_ ?_
                rotate_left
                · intro w'
                  go_simp
                  with_reducible rfl
                rotate_left
                · simp only [Act.put,List.setIfInBounds_toArray,List.set_cons_zero,List.set_cons_succ,i64_w,i32_w]
                  rfl
                refine pure_ (i:=4) (N:=some 31) (v:=?_) (a':=?_) #[true,true,true,true,true,true,true,false,false,false,true,true,false,false,false] rfl rfl (any_of HT_.out (by kernel_rfl)) (fun _ _ _ h=>h) (Or.inl ⟨by rfl,?_⟩) ?_ ?_
                rotate_left
                · intro w'
                  go_simp
                  with_reducible rfl
                rotate_left
                · simp only [Act.put,List.setIfInBounds_toArray,List.set_cons_zero,List.set_cons_succ,i64_w,i32_w]
                  rfl
                refine one_ (i:=7) (N:=some 34) #[true,true,true,true,true,true,true,true,false,false,true,true,false,false,false] rfl rfl (one_of HT_.out (by kernel_rfl)) (by decide) (fun K hK=>?_)
                refine goes_ Tryz.func62 (by kernel_rfl) rfl #[.agg #[.string a0_2,.string a0_3]] (by rfl) rfl rfl (by (try simp only [List.map_toArray,List.map_cons,List.map_nil]);first|done|rfl|(simp only [List.length_drop,List.length_take];rfl)) ?_
                with_reducible refine (spec_l1Put.calls a0_2 a0_3 t113 _ A27.out).mono ?_
                rintro e w36 ⟨rfl,hb⟩
                refine ⟨_,rfl,?_⟩
                have n0_:=Aside0.mk (blk_below (g:=gb107) (o:=.cells #[.int .i64 a0_0,.int .i64 a0_1,.string a0_2,.string a0_3,.int .i64 a0_4,.string a0_5,.string a0_6,.slice A0_7 l0_7.length c0_7,.slice A0_8 l0_8.length c0_8] 30 (0,0)) (by (with_reducible repeat (first|refine blk_drewN ?_ _|refine blk_drew ?_|refine blk_alloc ?_ _));exact BK107.out) hb)
                have n1_:=Aside0.mk (below_step (by repeat (first|(with_reducible first|exact HB.out|apply below_alloc|apply pw_below_drewN|apply below_drew1|refine below_set ?_ GE107.out)|exact HB.out)) hb)
                clear BK107
                clear HB
                have BK107:=n0_
                have HB:=n1_
                clear n0_ n1_
                (try clear hb)
                (try clear hb2)
                (try clear hk)
                (try clear hi)
                refine hK.out _ _ ⟨(blk_cell BK107.out 0).trans rfl,(blk_cell BK107.out 1).trans rfl,(blk_cell BK107.out 2).trans rfl,(blk_cell BK107.out 3).trans rfl,(blk_cell BK107.out 4).trans rfl,(blk_cell BK107.out 5).trans rfl,(blk_cell BK107.out 6).trans rfl,(blk_cell BK107.out 7).trans rfl,(blk_cell BK107.out 8).trans rfl⟩ (fun hHeld=>?_)
                clear hK K
                refine norm_ (a':=?_) ?_ ?_
                rotate_left
                · show Act.put _ (some 34) _=_
                  simp only [Act.put,List.setIfInBounds_toArray,List.set_cons_zero,List.set_cons_succ,i64_w,i32_w]
                  rfl
                refine pure_ (i:=8) (N:=some 35) (v:=?_) (a':=?_) #[true,true,true,true,true,true,true,true,true,false,true,true,false,false,false] rfl rfl (any_of HT_.out (by kernel_rfl)) (fun _ _ _ h=>h) (Or.inl ⟨by rfl,?_⟩) ?_ ?_
                rotate_left
                · intro w'
                  go_simp
                  with_reducible rfl
                rotate_left
                · simp only [Act.put,List.setIfInBounds_toArray,List.set_cons_zero,List.set_cons_succ,i64_w,i32_w]
                  rfl
                refine pure_ (i:=9) (N:=some 36) (v:=?_) (a':=?_) #[true,true,true,true,true,true,true,true,true,true,true,true,false,false,false] rfl rfl (any_of HT_.out (by kernel_rfl)) (fun _ _ _ h=>h) (Or.inl ⟨by rfl,?_⟩) ?_ ?_
                rotate_left
                · intro w'
                  go_simp
                  with_reducible rfl
                rotate_left
                · simp only [Act.put,List.setIfInBounds_toArray,List.set_cons_zero,List.set_cons_succ,i64_w,i32_w]
                  rfl
                refine one_ (i:=12) (N:=some 39) #[true,true,true,true,true,true,true,true,true,true,true,true,true,false,false] rfl rfl (one_of HT_.out (by kernel_rfl)) (by decide) (fun K hK=>?_)
                refine goes_ Tryz.func60 (by kernel_rfl) rfl #[.int .i64 a0_4] (by rfl) rfl rfl (by (try simp only [List.map_toArray,List.map_cons,List.map_nil]);first|done|rfl|(simp only [List.length_drop,List.length_take];rfl)) ?_
                with_reducible refine (spec_l1Dec.calls k a0_4 t114 _ A30.out).mono ?_
                rintro e w37 ⟨rfl,hb⟩
                refine ⟨_,rfl,?_⟩
                have n0_:=Aside0.mk (blk_below (g:=gb107) (o:=.cells #[.int .i64 a0_0,.int .i64 a0_1,.string a0_2,.string a0_3,.int .i64 a0_4,.string a0_5,.string a0_6,.slice A0_7 l0_7.length c0_7,.slice A0_8 l0_8.length c0_8] 30 (0,0)) (by (with_reducible repeat (first|refine blk_drewN ?_ _|refine blk_drew ?_|refine blk_alloc ?_ _));exact BK107.out) hb)
                have n1_:=Aside0.mk (below_step (by repeat (first|(with_reducible first|exact HB.out|apply below_alloc|apply pw_below_drewN|apply below_drew1|refine below_set ?_ GE107.out)|exact HB.out)) hb)
                clear BK107
                clear HB
                have BK107:=n0_
                have HB:=n1_
                clear n0_ n1_
                (try clear hb)
                (try clear hb2)
                (try clear hk)
                (try clear hi)
                refine hK.out _ _ ⟨(blk_cell BK107.out 0).trans rfl,(blk_cell BK107.out 1).trans rfl,(blk_cell BK107.out 2).trans rfl,(blk_cell BK107.out 3).trans rfl,(blk_cell BK107.out 4).trans rfl,(blk_cell BK107.out 5).trans rfl,(blk_cell BK107.out 6).trans rfl,(blk_cell BK107.out 7).trans rfl,(blk_cell BK107.out 8).trans rfl⟩ (fun hHeld=>?_)
                clear hK K
                refine norm_ (a':=?_) ?_ ?_
                rotate_left
                · show Act.put _ (some 39) _=_
                  simp only [Act.put,List.setIfInBounds_toArray,List.set_cons_zero,List.set_cons_succ,i64_w,i32_w]
                  rfl
                refine pure_ (i:=13) (N:=some 40) (v:=?_) (a':=?_) #[true,true,true,true,true,true,true,true,true,true,true,true,true,true,false] rfl rfl (any_of HT_.out (by kernel_rfl)) (fun _ _ _ h=>h) (Or.inl ⟨by rfl,?_⟩) ?_ ?_
                rotate_left
                · intro w'
                  go_simp
                  with_reducible rfl
                rotate_left
                · simp only [Act.put,List.setIfInBounds_toArray,List.set_cons_zero,List.set_cons_succ,i64_w,i32_w]
                  rfl
                refine pure_ (i:=14) (N:=some 2) (v:=?_) (a':=?_) #[true,true,true,true,true,true,true,true,true,true,true,true,true,true,true] rfl rfl (any_of HT_.out (by kernel_rfl)) (fun _ _ _ h=>h) (Or.inl ⟨by rfl,?_⟩) ?_ ?_
                rotate_left
                · intro w'
                  go_simp
                  with_reducible rfl
                rotate_left
                · simp only [Act.put,List.setIfInBounds_toArray,List.set_cons_zero,List.set_cons_succ,i64_w,i32_w]
                  rfl
                refine done_ (done_of HT_.out (by kernel_rfl)) ?_
                try go_wp2
                go_ret
                exact ⟨by first|rfl|(simp [errW_none,errW_some]<;>rfl)|(simp [*,errW_none,errW_some]<;>rfl),by repeat (first|(with_reducible first|exact HB.out|apply below_alloc|apply pw_below_drewN|apply below_drew1|refine below_set ?_ GE107.out)|exact HB.out)⟩
              · rw [if_neg c31] at H
                exact absurd H (by simp)
            · rw [if_neg c29] at H
              exact absurd H (by simp)
          · rw [if_neg c28] at H
            exact absurd H (by simp)
        · rw [if_neg c26] at H
          exact absurd H (by simp)
      · rw [if_neg c25] at H
        exact absurd H (by simp)
end Go.Proofs.YtjdpdkdhfnpcgaaGreatDoor.Q
