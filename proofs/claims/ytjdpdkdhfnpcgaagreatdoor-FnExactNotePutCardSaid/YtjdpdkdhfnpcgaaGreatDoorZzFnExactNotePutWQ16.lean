/- Of a text of ours what this claim needs. -/
import Derived.Test.YtjdpdkdhfnpcgaaGreatDoorZzFnExactNotePutWQ0
import Derived.Test.YtjdpdkdhfnpcgaaGreatDoorZzFnExactNotePutWQ14
import Derived.Test.YtjdpdkdhfnpcgaaGreatDoorZzFnExactNotePutWQ15
import Derived.Test.YtjdpdkdhfnpcgaaGreatDoorZzFnExactNotePutWHNum
import Derived.Test.YtjdpdkdhfnpcgaaGreatDoorZzFnExactNotePutWHSplit
namespace Go.Proofs.YtjdpdkdhfnpcgaaGreatDoor.Q
open Go.RowKit Go.Proofs.YtjdpdkdhfnpcgaaGreatDoorW.PrintWords Go.Proofs.YtjdpdkdhfnpcgaaGreatDoorW.PrintLast Go.Proofs.YtjdpdkdhfnpcgaaGreatDoorW.PrintMore
attribute [local go_sem] max2_int min2_int max_two min_two max_three min_three max_four min_four
set_option linter.unusedVariables false
set_option linter.unusedSimpArgs false
def impl_NotePut.f (k:Nat) (a0_0:Int) (a0_1:Int) (a0_2:ByteArray) (a0_3:ByteArray) (a0_4:Int) (a0_5:ByteArray) (a0_6:ByteArray) (l0_7:List (S24)) (l0_8:List ByteArray):Option (ByteArray):=(impl_NoteOk.f k a0_0 a0_1 a0_2 a0_3 a0_4 a0_5 a0_6 l0_7 l0_8).bind fun t109=>(if t109=true then ((strconv_Itoa.f a0_4).bind fun t110=>(if a0_0=1 then (if 4+t110.size≤9223372036854775807 then (if ((⟨#[97,100,100,32]⟩:ByteArray)++t110).size+1≤9223372036854775807 then ((impl_MailPut.f k a0_5 a0_6 l0_7 l0_8).bind fun t111=>(if (((⟨#[97,100,100,32]⟩:ByteArray)++t110)++(⟨#[10]⟩:ByteArray)).size+t111.size≤9223372036854775807 then (some ((((⟨#[97,100,100,32]⟩:ByteArray)++t110)++(⟨#[10]⟩:ByteArray))++t111)) else (none))) else (none)) else (none)) else ((strconv_Itoa.f a0_1).bind fun t112=>(if t112.size+1≤9223372036854775807 then ((impl_Addr_text.f a0_2 a0_3).bind fun t113=>(if (t112++(⟨#[32]⟩:ByteArray)).size+t113.size≤9223372036854775807 then (if a0_0=2 then (if 5+((t112++(⟨#[32]⟩:ByteArray))++t113).size≤9223372036854775807 then (some ((⟨#[100,111,110,101,32]⟩:ByteArray)++((t112++(⟨#[32]⟩:ByteArray))++t113))) else (none)) else (if 6+((t112++(⟨#[32]⟩:ByteArray))++t113).size≤9223372036854775807 then (if ((⟨#[108,97,116,101,114,32]⟩:ByteArray)++((t112++(⟨#[32]⟩:ByteArray))++t113)).size+1≤9223372036854775807 then (if (((⟨#[108,97,116,101,114,32]⟩:ByteArray)++((t112++(⟨#[32]⟩:ByteArray))++t113))++(⟨#[32]⟩:ByteArray)).size+t110.size≤9223372036854775807 then (some ((((⟨#[108,97,116,101,114,32]⟩:ByteArray)++((t112++(⟨#[32]⟩:ByteArray))++t113))++(⟨#[32]⟩:ByteArray))++t110)) else (none)) else (none)) else (none))) else (none))) else (none))))) else (some (⟨#[]⟩:ByteArray)))
def impl_NotePut.T6:Bool × List (List Nat × List Nat):=(true,[([],[]),([0],[0]),([1],[1]),([2],[2]),([],[]),([4],[4]),([5,2],[5]),([3,6],[3,6]),([7,6,0,1,2,3,4,5,6,7],[7])])
def impl_NotePut.B6:List Nat:=[0,1,3,7,0,16,55,127,255]
theorem impl_NotePut.tab6:rtab .any (opsOf Tryz.f8 6)=impl_NotePut.T6:=by kernel_rfl
theorem impl_NotePut.bits6:waitsOk impl_NotePut.T6.2 impl_NotePut.B6=true:=by kernel_rfl
set_option maxHeartbeats 8000000 in
set_option maxRecDepth 100000 in
theorem impl_NotePut.calls (k:Nat) (a0_0:Int) (a0_1:Int) (a0_2:ByteArray) (a0_3:ByteArray) (a0_4:Int) (a0_5:ByteArray) (a0_6:ByteArray) (A0_7:Option Addr) (c0_7:Nat) (l0_7:List (S24)) (A0_8:Option Addr) (c0_8:Nat) (l0_8:List ByteArray) (r:ByteArray) (w:World) (hr0_7:Kd.C k24 w A0_7 l0_7.length l0_7) (hc0_7:l0_7.length≤c0_7) (hr0_8:Kd.C Kd.string w A0_8 l0_8.length l0_8) (hc0_8:l0_8.length≤c0_8) (hG:GOK w) (h:impl_NotePut.f k a0_0 a0_1 a0_2 a0_3 a0_4 a0_5 a0_6 l0_7 l0_8=some r) :
    Calls Tryz.prog 8 #[.agg #[.int .i64 a0_0,.int .i64 a0_1,.string a0_2,.string a0_3,.int .i64 a0_4,.string a0_5,.string a0_6,.slice A0_7 l0_7.length c0_7,.slice A0_8 l0_8.length c0_8]] w fun e w'=>e=.returned (.string r)∧Below w.heap.size w w':=by
  have hu30:=Tryz.underlying30
  have hu28:=Tryz.underlying28
  have hu24:=Tryz.underlying24
  have HR0_7:=Aside0.mk hr0_7
  have HC0_7:=Aside0.mk hc0_7
  clear hr0_7 hc0_7
  have HR0_8:=Aside0.mk hr0_8
  have HC0_8:=Aside0.mk hc0_8
  clear hr0_8 hc0_8
  have HG:=Aside0.mk hG
  clear hG
  have HB:=Aside0.mk (Below.refl w.heap.size w)
  have H:((impl_NoteOk.f k a0_0 a0_1 a0_2 a0_3 a0_4 a0_5 a0_6 l0_7 l0_8).bind fun t109=>(if t109=true then ((strconv_Itoa.f a0_4).bind fun t110=>(if a0_0=1 then (if 4+t110.size≤9223372036854775807 then (if ((⟨#[97,100,100,32]⟩:ByteArray)++t110).size+1≤9223372036854775807 then ((impl_MailPut.f k a0_5 a0_6 l0_7 l0_8).bind fun t111=>(if (((⟨#[97,100,100,32]⟩:ByteArray)++t110)++(⟨#[10]⟩:ByteArray)).size+t111.size≤9223372036854775807 then (some ((((⟨#[97,100,100,32]⟩:ByteArray)++t110)++(⟨#[10]⟩:ByteArray))++t111)) else (none))) else (none)) else (none)) else ((strconv_Itoa.f a0_1).bind fun t112=>(if t112.size+1≤9223372036854775807 then ((impl_Addr_text.f a0_2 a0_3).bind fun t113=>(if (t112++(⟨#[32]⟩:ByteArray)).size+t113.size≤9223372036854775807 then (if a0_0=2 then (if 5+((t112++(⟨#[32]⟩:ByteArray))++t113).size≤9223372036854775807 then (some ((⟨#[100,111,110,101,32]⟩:ByteArray)++((t112++(⟨#[32]⟩:ByteArray))++t113))) else (none)) else (if 6+((t112++(⟨#[32]⟩:ByteArray))++t113).size≤9223372036854775807 then (if ((⟨#[108,97,116,101,114,32]⟩:ByteArray)++((t112++(⟨#[32]⟩:ByteArray))++t113)).size+1≤9223372036854775807 then (if (((⟨#[108,97,116,101,114,32]⟩:ByteArray)++((t112++(⟨#[32]⟩:ByteArray))++t113))++(⟨#[32]⟩:ByteArray)).size+t110.size≤9223372036854775807 then (some ((((⟨#[108,97,116,101,114,32]⟩:ByteArray)++((t112++(⟨#[32]⟩:ByteArray))++t113))++(⟨#[32]⟩:ByteArray))++t110)) else (none)) else (none)) else (none))) else (none))) else (none))))) else (some (⟨#[]⟩:ByteArray))))=some r:=h
  clear h
  replace H:=Option.bind_eq_some_iff.mp H
  obtain ⟨t109,A20,H⟩:=H
  replace H:(if t109=true then ((strconv_Itoa.f a0_4).bind fun t110=>(if a0_0=1 then (if 4+t110.size≤9223372036854775807 then (if ((⟨#[97,100,100,32]⟩:ByteArray)++t110).size+1≤9223372036854775807 then ((impl_MailPut.f k a0_5 a0_6 l0_7 l0_8).bind fun t111=>(if (((⟨#[97,100,100,32]⟩:ByteArray)++t110)++(⟨#[10]⟩:ByteArray)).size+t111.size≤9223372036854775807 then (some ((((⟨#[97,100,100,32]⟩:ByteArray)++t110)++(⟨#[10]⟩:ByteArray))++t111)) else (none))) else (none)) else (none)) else ((strconv_Itoa.f a0_1).bind fun t112=>(if t112.size+1≤9223372036854775807 then ((impl_Addr_text.f a0_2 a0_3).bind fun t113=>(if (t112++(⟨#[32]⟩:ByteArray)).size+t113.size≤9223372036854775807 then (if a0_0=2 then (if 5+((t112++(⟨#[32]⟩:ByteArray))++t113).size≤9223372036854775807 then (some ((⟨#[100,111,110,101,32]⟩:ByteArray)++((t112++(⟨#[32]⟩:ByteArray))++t113))) else (none)) else (if 6+((t112++(⟨#[32]⟩:ByteArray))++t113).size≤9223372036854775807 then (if ((⟨#[108,97,116,101,114,32]⟩:ByteArray)++((t112++(⟨#[32]⟩:ByteArray))++t113)).size+1≤9223372036854775807 then (if (((⟨#[108,97,116,101,114,32]⟩:ByteArray)++((t112++(⟨#[32]⟩:ByteArray))++t113))++(⟨#[32]⟩:ByteArray)).size+t110.size≤9223372036854775807 then (some ((((⟨#[108,97,116,101,114,32]⟩:ByteArray)++((t112++(⟨#[32]⟩:ByteArray))++t113))++(⟨#[32]⟩:ByteArray))++t110)) else (none)) else (none)) else (none))) else (none))) else (none))))) else (some (⟨#[]⟩:ByteArray)))=some r:=H
  have A2:=Aside0.mk A20
  clear A20
  by_cases c3:t109=true
  · subst c3
    have H1:((strconv_Itoa.f a0_4).bind fun t110=>(if a0_0=1 then (if 4+t110.size≤9223372036854775807 then (if ((⟨#[97,100,100,32]⟩:ByteArray)++t110).size+1≤9223372036854775807 then ((impl_MailPut.f k a0_5 a0_6 l0_7 l0_8).bind fun t111=>(if (((⟨#[97,100,100,32]⟩:ByteArray)++t110)++(⟨#[10]⟩:ByteArray)).size+t111.size≤9223372036854775807 then (some ((((⟨#[97,100,100,32]⟩:ByteArray)++t110)++(⟨#[10]⟩:ByteArray))++t111)) else (none))) else (none)) else (none)) else ((strconv_Itoa.f a0_1).bind fun t112=>(if t112.size+1≤9223372036854775807 then ((impl_Addr_text.f a0_2 a0_3).bind fun t113=>(if (t112++(⟨#[32]⟩:ByteArray)).size+t113.size≤9223372036854775807 then (if a0_0=2 then (if 5+((t112++(⟨#[32]⟩:ByteArray))++t113).size≤9223372036854775807 then (some ((⟨#[100,111,110,101,32]⟩:ByteArray)++((t112++(⟨#[32]⟩:ByteArray))++t113))) else (none)) else (if 6+((t112++(⟨#[32]⟩:ByteArray))++t113).size≤9223372036854775807 then (if ((⟨#[108,97,116,101,114,32]⟩:ByteArray)++((t112++(⟨#[32]⟩:ByteArray))++t113)).size+1≤9223372036854775807 then (if (((⟨#[108,97,116,101,114,32]⟩:ByteArray)++((t112++(⟨#[32]⟩:ByteArray))++t113))++(⟨#[32]⟩:ByteArray)).size+t110.size≤9223372036854775807 then (some ((((⟨#[108,97,116,101,114,32]⟩:ByteArray)++((t112++(⟨#[32]⟩:ByteArray))++t113))++(⟨#[32]⟩:ByteArray))++t110)) else (none)) else (none)) else (none))) else (none))) else (none)))))=some r:=by rw [if_pos rfl] at H;exact H
    clear H
    have H:=H1
    clear H1
    replace H:=Option.bind_eq_some_iff.mp H
    obtain ⟨t110,A40,H⟩:=H
    replace H:(if a0_0=1 then (if 4+t110.size≤9223372036854775807 then (if ((⟨#[97,100,100,32]⟩:ByteArray)++t110).size+1≤9223372036854775807 then ((impl_MailPut.f k a0_5 a0_6 l0_7 l0_8).bind fun t111=>(if (((⟨#[97,100,100,32]⟩:ByteArray)++t110)++(⟨#[10]⟩:ByteArray)).size+t111.size≤9223372036854775807 then (some ((((⟨#[97,100,100,32]⟩:ByteArray)++t110)++(⟨#[10]⟩:ByteArray))++t111)) else (none))) else (none)) else (none)) else ((strconv_Itoa.f a0_1).bind fun t112=>(if t112.size+1≤9223372036854775807 then ((impl_Addr_text.f a0_2 a0_3).bind fun t113=>(if (t112++(⟨#[32]⟩:ByteArray)).size+t113.size≤9223372036854775807 then (if a0_0=2 then (if 5+((t112++(⟨#[32]⟩:ByteArray))++t113).size≤9223372036854775807 then (some ((⟨#[100,111,110,101,32]⟩:ByteArray)++((t112++(⟨#[32]⟩:ByteArray))++t113))) else (none)) else (if 6+((t112++(⟨#[32]⟩:ByteArray))++t113).size≤9223372036854775807 then (if ((⟨#[108,97,116,101,114,32]⟩:ByteArray)++((t112++(⟨#[32]⟩:ByteArray))++t113)).size+1≤9223372036854775807 then (if (((⟨#[108,97,116,101,114,32]⟩:ByteArray)++((t112++(⟨#[32]⟩:ByteArray))++t113))++(⟨#[32]⟩:ByteArray)).size+t110.size≤9223372036854775807 then (some ((((⟨#[108,97,116,101,114,32]⟩:ByteArray)++((t112++(⟨#[32]⟩:ByteArray))++t113))++(⟨#[32]⟩:ByteArray))++t110)) else (none)) else (none)) else (none))) else (none))) else (none))))=some r:=H
    have A4:=Aside0.mk A40
    clear A40
    by_cases c5:a0_0=1
    · rw [if_pos c5] at H
      have c5b0:(a0_0==1)=true:=beq_iff_eq.mpr c5
      have c5b1:(a0_0 != 1)=false:=bne_eq_false_iff_eq.mpr c5
      clear c5
      by_cases c6:4+t110.size≤9223372036854775807
      · rw [if_pos c6] at H
        have c6b0:=eq_true c6
        have c6b1:decide (4+t110.size≤9223372036854775807)=true:=decide_eq_true c6
        try have c6b2:(9223372036854775807 < 4+t110.size)=False:=eq_false (Nat.not_lt.2 c6)
        by_cases c7:((⟨#[97,100,100,32]⟩:ByteArray)++t110).size+1≤9223372036854775807
        · rw [if_pos c7] at H
          have c7b0:=eq_true c7
          have c7b1:decide (((⟨#[97,100,100,32]⟩:ByteArray)++t110).size+1≤9223372036854775807)=true:=decide_eq_true c7
          try have c7b2:(9223372036854775807 < ((⟨#[97,100,100,32]⟩:ByteArray)++t110).size+1)=False:=eq_false (Nat.not_lt.2 c7)
          try have c7b3:=c7
          try simp only [ByteArray.size_append',sz1,sz2,sz3,sz4,sz5,sz6,sz7,sz8] at c7b3
          try have c7b4:=eq_true c7b3
          try have c7b5:=eq_false (Nat.not_lt.2 c7b3)
          replace H:=Option.bind_eq_some_iff.mp H
          obtain ⟨t111,A80,H⟩:=H
          replace H:(if (((⟨#[97,100,100,32]⟩:ByteArray)++t110)++(⟨#[10]⟩:ByteArray)).size+t111.size≤9223372036854775807 then (some ((((⟨#[97,100,100,32]⟩:ByteArray)++t110)++(⟨#[10]⟩:ByteArray))++t111)) else (none))=some r:=H
          have A8:=Aside0.mk A80
          clear A80
          by_cases c9:(((⟨#[97,100,100,32]⟩:ByteArray)++t110)++(⟨#[10]⟩:ByteArray)).size+t111.size≤9223372036854775807
          · rw [if_pos c9] at H
            have c9b0:=eq_true c9
            have c9b1:decide ((((⟨#[97,100,100,32]⟩:ByteArray)++t110)++(⟨#[10]⟩:ByteArray)).size+t111.size≤9223372036854775807)=true:=decide_eq_true c9
            try have c9b2:(9223372036854775807 < (((⟨#[97,100,100,32]⟩:ByteArray)++t110)++(⟨#[10]⟩:ByteArray)).size+t111.size)=False:=eq_false (Nat.not_lt.2 c9)
            try have c9b3:=c9
            try simp only [ByteArray.size_append',sz1,sz2,sz3,sz4,sz5,sz6,sz7,sz8] at c9b3
            try have c9b4:=eq_true c9b3
            try have c9b5:=eq_false (Nat.not_lt.2 c9b3)
            obtain rfl:=Option.some.inj H
            go_enter Tryz.func8,Tryz.ntmps8
            go_wp2_with (first|((with_reducible refine gate_dst (N:=1) rfl ?_);refine box_event ?hg (N:=1) ?hd (cs:=#[.int .i64 a0_0,.int .i64 a0_1,.string a0_2,.string a0_3,.int .i64 a0_4,.string a0_5,.string a0_6,.slice A0_7 l0_7.length c0_7,.slice A0_8 l0_8.length c0_8]) (t:=30) ?hr ?_;(case hd=>rfl);(case hg=>rfl);(case hr=>first|(go_simp;done)|(go_simp;rfl));intro gb108 hg w10 hbox hb;have n0_:=Aside0.mk (below_step (by repeat (first|(with_reducible first|exact HB.out|apply below_alloc|apply pw_below_drewN|apply below_drew1)|exact HB.out)) hb);have n1_:=Aside0.mk (hbox);have n2_:=Aside0.mk ((by rw [hg];exact (below_size (by repeat (first|(with_reducible first|exact HB.out|apply below_alloc|apply pw_below_drewN|apply below_drew1)|exact HB.out))):w.heap.size≤gb108));have n3_:=Aside0.mk ((by rw [hg];exact (below_size (by repeat (first|(with_reducible first|exact HB.out|apply below_alloc|apply pw_below_drewN|apply below_drew1)|exact HB.out))):w.heap.size≤gb108));clear HB;have HB:=n0_;have BK108:=n1_;have GW108:=n2_;have GE108:=n3_;clear n0_ n1_ n2_ n3_;clear hb hbox hg;have hcz11_0:w10.cell? ⟨gb108,0,none⟩=some (.int .i64 a0_0):=(blk_cell BK108.out 0).trans rfl;have hcz11_1:w10.cell? ⟨gb108,1,none⟩=some (.int .i64 a0_1):=(blk_cell BK108.out 1).trans rfl;have hcz11_2:w10.cell? ⟨gb108,2,none⟩=some (.string a0_2):=(blk_cell BK108.out 2).trans rfl;have hcz11_3:w10.cell? ⟨gb108,3,none⟩=some (.string a0_3):=(blk_cell BK108.out 3).trans rfl;have hcz11_4:w10.cell? ⟨gb108,4,none⟩=some (.int .i64 a0_4):=(blk_cell BK108.out 4).trans rfl;have hcz11_5:w10.cell? ⟨gb108,5,none⟩=some (.string a0_5):=(blk_cell BK108.out 5).trans rfl;have hcz11_6:w10.cell? ⟨gb108,6,none⟩=some (.string a0_6):=(blk_cell BK108.out 6).trans rfl;have hcz11_7:w10.cell? ⟨gb108,7,none⟩=some (.slice A0_7 l0_7.length c0_7):=(blk_cell BK108.out 7).trans rfl;have hcz11_8:w10.cell? ⟨gb108,8,none⟩=some (.slice A0_8 l0_8.length c0_8):=(blk_cell BK108.out 8).trans rfl;have hfz11_0:=blk_frozen BK108.out 0;have hfz11_1:=blk_frozen BK108.out 1;have hfz11_2:=blk_frozen BK108.out 2;have hfz11_3:=blk_frozen BK108.out 3;have hfz11_4:=blk_frozen BK108.out 4;have hfz11_5:=blk_frozen BK108.out 5;have hfz11_6:=blk_frozen BK108.out 6;have hfz11_7:=blk_frozen BK108.out 7;have hfz11_8:=blk_frozen BK108.out 8)|((with_reducible refine gate_callee (f:=10) rfl ?_);refine goesL_ (some 6) rfl rfl Tryz.func10 (by kernel_rfl) rfl #[.agg #[.int .i64 a0_0,.int .i64 a0_1,.string a0_2,.string a0_3,.int .i64 a0_4,.string a0_5,.string a0_6,.slice A0_7 l0_7.length c0_7,.slice A0_8 l0_8.length c0_8]] rfl (by (try simp only [List.map_toArray,List.map_cons,List.map_nil]);first|done|rfl|(simp only [List.length_drop,List.length_take];rfl)) ?_;(with_reducible refine (impl_NoteOk.calls k a0_0 a0_1 a0_2 a0_3 a0_4 a0_5 a0_6 _ _ l0_7 _ _ l0_8 true _ ?side1 ?side2 ?side3 ?side4 ?side5 A2.out).mono ?_);(case side1=>repeat (first|exact (Kd.C_below HR0_7.out HB.out)|(with_reducible refine Kd.C_alloc ?_ _)|(with_reducible refine Kd.C_drewN ?_ _)|(with_reducible refine Kd.C_drew ?_)));(case side2=>exact HC0_7.out);(case side3=>repeat (first|exact (Kd.C_below HR0_8.out HB.out)|(with_reducible refine Kd.C_alloc ?_ _)|(with_reducible refine Kd.C_drewN ?_ _)|(with_reducible refine Kd.C_drew ?_)));(case side4=>exact HC0_8.out);(case side5=>first|(with_reducible exact HG.out)|((with_reducible repeat (first|exact HG.out|apply GOK.drewN|apply GOK.drew));done)|exact GOK.below HG.out (by repeat (first|(with_reducible first|exact HB.out|apply below_alloc|apply pw_below_drewN|apply below_drew1|refine below_set ?_ GE108.out)|exact HB.out)));rintro e w12 ⟨rfl,hb⟩;refine ⟨_,rfl,?_⟩;have n0_:=Aside0.mk (blk_below (g:=gb108) (o:=.cells #[.int .i64 a0_0,.int .i64 a0_1,.string a0_2,.string a0_3,.int .i64 a0_4,.string a0_5,.string a0_6,.slice A0_7 l0_7.length c0_7,.slice A0_8 l0_8.length c0_8] 30 (0,0)) (by (with_reducible repeat (first|refine blk_drewN ?_ _|refine blk_drew ?_|refine blk_alloc ?_ _));exact BK108.out) hb);have n1_:=Aside0.mk (below_step (by repeat (first|(with_reducible first|exact HB.out|apply below_alloc|apply pw_below_drewN|apply below_drew1|refine below_set ?_ GE108.out)|exact HB.out)) hb);clear BK108;clear HB;have BK108:=n0_;have HB:=n1_;clear n0_ n1_;(try clear hb);(try clear hb2);(try clear hk);(try clear hi);have hcz13_0:w12.cell? ⟨gb108,0,none⟩=some (.int .i64 a0_0):=(blk_cell BK108.out 0).trans rfl;have hcz13_1:w12.cell? ⟨gb108,1,none⟩=some (.int .i64 a0_1):=(blk_cell BK108.out 1).trans rfl;have hcz13_2:w12.cell? ⟨gb108,2,none⟩=some (.string a0_2):=(blk_cell BK108.out 2).trans rfl;have hcz13_3:w12.cell? ⟨gb108,3,none⟩=some (.string a0_3):=(blk_cell BK108.out 3).trans rfl;have hcz13_4:w12.cell? ⟨gb108,4,none⟩=some (.int .i64 a0_4):=(blk_cell BK108.out 4).trans rfl;have hcz13_5:w12.cell? ⟨gb108,5,none⟩=some (.string a0_5):=(blk_cell BK108.out 5).trans rfl;have hcz13_6:w12.cell? ⟨gb108,6,none⟩=some (.string a0_6):=(blk_cell BK108.out 6).trans rfl;have hcz13_7:w12.cell? ⟨gb108,7,none⟩=some (.slice A0_7 l0_7.length c0_7):=(blk_cell BK108.out 7).trans rfl;have hcz13_8:w12.cell? ⟨gb108,8,none⟩=some (.slice A0_8 l0_8.length c0_8):=(blk_cell BK108.out 8).trans rfl;have hfz13_0:=blk_frozen BK108.out 0;have hfz13_1:=blk_frozen BK108.out 1;have hfz13_2:=blk_frozen BK108.out 2;have hfz13_3:=blk_frozen BK108.out 3;have hfz13_4:=blk_frozen BK108.out 4;have hfz13_5:=blk_frozen BK108.out 5;have hfz13_6:=blk_frozen BK108.out 6;have hfz13_7:=blk_frozen BK108.out 7;have hfz13_8:=blk_frozen BK108.out 8)|((with_reducible refine gate_callee (f:=22) rfl ?_);refine goesL_ (some 10) rfl rfl Tryz.func22 (by kernel_rfl) rfl #[.int .i64 a0_4] rfl (by (try simp only [List.map_toArray,List.map_cons,List.map_nil]);first|done|rfl|(simp only [List.length_drop,List.length_take];rfl)) ?_;(with_reducible refine (strconv_Itoa.calls a0_4 t110 _ ?side1 A4.out).mono ?_);(case side1=>first|(with_reducible exact HG.out)|((with_reducible repeat (first|exact HG.out|apply GOK.drewN|apply GOK.drew));done)|exact GOK.below HG.out (by repeat (first|(with_reducible first|exact HB.out|apply below_alloc|apply pw_below_drewN|apply below_drew1|refine below_set ?_ GE108.out)|exact HB.out)));rintro e w14 ⟨rfl,hb⟩;refine ⟨_,rfl,?_⟩;have n0_:=Aside0.mk (blk_below (g:=gb108) (o:=.cells #[.int .i64 a0_0,.int .i64 a0_1,.string a0_2,.string a0_3,.int .i64 a0_4,.string a0_5,.string a0_6,.slice A0_7 l0_7.length c0_7,.slice A0_8 l0_8.length c0_8] 30 (0,0)) (by (with_reducible repeat (first|refine blk_drewN ?_ _|refine blk_drew ?_|refine blk_alloc ?_ _));exact BK108.out) hb);have n1_:=Aside0.mk (below_step (by repeat (first|(with_reducible first|exact HB.out|apply below_alloc|apply pw_below_drewN|apply below_drew1|refine below_set ?_ GE108.out)|exact HB.out)) hb);clear BK108;clear HB;have BK108:=n0_;have HB:=n1_;clear n0_ n1_;(try clear hb);(try clear hb2);(try clear hk);(try clear hi);have hcz15_0:w14.cell? ⟨gb108,0,none⟩=some (.int .i64 a0_0):=(blk_cell BK108.out 0).trans rfl;have hcz15_1:w14.cell? ⟨gb108,1,none⟩=some (.int .i64 a0_1):=(blk_cell BK108.out 1).trans rfl;have hcz15_2:w14.cell? ⟨gb108,2,none⟩=some (.string a0_2):=(blk_cell BK108.out 2).trans rfl;have hcz15_3:w14.cell? ⟨gb108,3,none⟩=some (.string a0_3):=(blk_cell BK108.out 3).trans rfl;have hcz15_4:w14.cell? ⟨gb108,4,none⟩=some (.int .i64 a0_4):=(blk_cell BK108.out 4).trans rfl;have hcz15_5:w14.cell? ⟨gb108,5,none⟩=some (.string a0_5):=(blk_cell BK108.out 5).trans rfl;have hcz15_6:w14.cell? ⟨gb108,6,none⟩=some (.string a0_6):=(blk_cell BK108.out 6).trans rfl;have hcz15_7:w14.cell? ⟨gb108,7,none⟩=some (.slice A0_7 l0_7.length c0_7):=(blk_cell BK108.out 7).trans rfl;have hcz15_8:w14.cell? ⟨gb108,8,none⟩=some (.slice A0_8 l0_8.length c0_8):=(blk_cell BK108.out 8).trans rfl;have hfz15_0:=blk_frozen BK108.out 0;have hfz15_1:=blk_frozen BK108.out 1;have hfz15_2:=blk_frozen BK108.out 2;have hfz15_3:=blk_frozen BK108.out 3;have hfz15_4:=blk_frozen BK108.out 4;have hfz15_5:=blk_frozen BK108.out 5;have hfz15_6:=blk_frozen BK108.out 6;have hfz15_7:=blk_frozen BK108.out 7;have hfz15_8:=blk_frozen BK108.out 8)|((with_reducible refine gate_callee (f:=23) rfl ?_);refine goesL_ (some 19) rfl rfl Tryz.func23 (by kernel_rfl) rfl #[.agg #[.string a0_5,.string a0_6,.slice A0_7 l0_7.length c0_7,.slice A0_8 l0_8.length c0_8]] rfl (by (try simp only [List.map_toArray,List.map_cons,List.map_nil]);first|done|rfl|(simp only [List.length_drop,List.length_take];rfl)) ?_;(with_reducible refine (impl_MailPut.calls k a0_5 a0_6 _ _ l0_7 _ _ l0_8 t111 _ ?side1 ?side2 ?side3 ?side4 ?side5 A8.out).mono ?_);(case side1=>repeat (first|exact (Kd.C_below HR0_7.out HB.out)|(with_reducible refine Kd.C_alloc ?_ _)|(with_reducible refine Kd.C_drewN ?_ _)|(with_reducible refine Kd.C_drew ?_)));(case side2=>exact HC0_7.out);(case side3=>repeat (first|exact (Kd.C_below HR0_8.out HB.out)|(with_reducible refine Kd.C_alloc ?_ _)|(with_reducible refine Kd.C_drewN ?_ _)|(with_reducible refine Kd.C_drew ?_)));(case side4=>exact HC0_8.out);(case side5=>first|(with_reducible exact HG.out)|((with_reducible repeat (first|exact HG.out|apply GOK.drewN|apply GOK.drew));done)|exact GOK.below HG.out (by repeat (first|(with_reducible first|exact HB.out|apply below_alloc|apply pw_below_drewN|apply below_drew1|refine below_set ?_ GE108.out)|exact HB.out)));rintro e w16 ⟨rfl,hb⟩;refine ⟨_,rfl,?_⟩;have n0_:=Aside0.mk (blk_below (g:=gb108) (o:=.cells #[.int .i64 a0_0,.int .i64 a0_1,.string a0_2,.string a0_3,.int .i64 a0_4,.string a0_5,.string a0_6,.slice A0_7 l0_7.length c0_7,.slice A0_8 l0_8.length c0_8] 30 (0,0)) (by (with_reducible repeat (first|refine blk_drewN ?_ _|refine blk_drew ?_|refine blk_alloc ?_ _));exact BK108.out) hb);have n1_:=Aside0.mk (below_step (by repeat (first|(with_reducible first|exact HB.out|apply below_alloc|apply pw_below_drewN|apply below_drew1|refine below_set ?_ GE108.out)|exact HB.out)) hb);clear BK108;clear HB;have BK108:=n0_;have HB:=n1_;clear n0_ n1_;(try clear hb);(try clear hb2);(try clear hk);(try clear hi)))
            go_ret
            exact ⟨by first|rfl|(simp [errW_none,errW_some]<;>rfl)|(simp [*,errW_none,errW_some]<;>rfl),by repeat (first|(with_reducible first|exact HB.out|apply below_alloc|apply pw_below_drewN|apply below_drew1|refine below_set ?_ GE108.out)|exact HB.out)⟩
          · rw [if_neg c9] at H
            exact absurd H (by simp)
        · rw [if_neg c7] at H
          exact absurd H (by simp)
      · rw [if_neg c6] at H
        exact absurd H (by simp)
    · rw [if_neg c5] at H
      have c5b0:(a0_0==1)=false:=beq_eq_false_iff_ne.mpr c5
      have c5b1:(a0_0 != 1)=true:=bne_iff_ne.mpr c5
      replace H:=Option.bind_eq_some_iff.mp H
      obtain ⟨t112,A170,H⟩:=H
      replace H:(if t112.size+1≤9223372036854775807 then ((impl_Addr_text.f a0_2 a0_3).bind fun t113=>(if (t112++(⟨#[32]⟩:ByteArray)).size+t113.size≤9223372036854775807 then (if a0_0=2 then (if 5+((t112++(⟨#[32]⟩:ByteArray))++t113).size≤9223372036854775807 then (some ((⟨#[100,111,110,101,32]⟩:ByteArray)++((t112++(⟨#[32]⟩:ByteArray))++t113))) else (none)) else (if 6+((t112++(⟨#[32]⟩:ByteArray))++t113).size≤9223372036854775807 then (if ((⟨#[108,97,116,101,114,32]⟩:ByteArray)++((t112++(⟨#[32]⟩:ByteArray))++t113)).size+1≤9223372036854775807 then (if (((⟨#[108,97,116,101,114,32]⟩:ByteArray)++((t112++(⟨#[32]⟩:ByteArray))++t113))++(⟨#[32]⟩:ByteArray)).size+t110.size≤9223372036854775807 then (some ((((⟨#[108,97,116,101,114,32]⟩:ByteArray)++((t112++(⟨#[32]⟩:ByteArray))++t113))++(⟨#[32]⟩:ByteArray))++t110)) else (none)) else (none)) else (none))) else (none))) else (none))=some r:=H
      have A17:=Aside0.mk A170
      clear A170
      by_cases c18:t112.size+1≤9223372036854775807
      · rw [if_pos c18] at H
        have c18b0:=eq_true c18
        have c18b1:decide (t112.size+1≤9223372036854775807)=true:=decide_eq_true c18
        try have c18b2:(9223372036854775807 < t112.size+1)=False:=eq_false (Nat.not_lt.2 c18)
        replace H:=Option.bind_eq_some_iff.mp H
        obtain ⟨t113,A190,H⟩:=H
        replace H:(if (t112++(⟨#[32]⟩:ByteArray)).size+t113.size≤9223372036854775807 then (if a0_0=2 then (if 5+((t112++(⟨#[32]⟩:ByteArray))++t113).size≤9223372036854775807 then (some ((⟨#[100,111,110,101,32]⟩:ByteArray)++((t112++(⟨#[32]⟩:ByteArray))++t113))) else (none)) else (if 6+((t112++(⟨#[32]⟩:ByteArray))++t113).size≤9223372036854775807 then (if ((⟨#[108,97,116,101,114,32]⟩:ByteArray)++((t112++(⟨#[32]⟩:ByteArray))++t113)).size+1≤9223372036854775807 then (if (((⟨#[108,97,116,101,114,32]⟩:ByteArray)++((t112++(⟨#[32]⟩:ByteArray))++t113))++(⟨#[32]⟩:ByteArray)).size+t110.size≤9223372036854775807 then (some ((((⟨#[108,97,116,101,114,32]⟩:ByteArray)++((t112++(⟨#[32]⟩:ByteArray))++t113))++(⟨#[32]⟩:ByteArray))++t110)) else (none)) else (none)) else (none))) else (none))=some r:=H
        have A19:=Aside0.mk A190
        clear A190
        by_cases c20:(t112++(⟨#[32]⟩:ByteArray)).size+t113.size≤9223372036854775807
        · rw [if_pos c20] at H
          have c20b0:=eq_true c20
          have c20b1:decide ((t112++(⟨#[32]⟩:ByteArray)).size+t113.size≤9223372036854775807)=true:=decide_eq_true c20
          try have c20b2:(9223372036854775807 < (t112++(⟨#[32]⟩:ByteArray)).size+t113.size)=False:=eq_false (Nat.not_lt.2 c20)
          try have c20b3:=c20
          try simp only [ByteArray.size_append',sz1,sz2,sz3,sz4,sz5,sz6,sz7,sz8] at c20b3
          try have c20b4:=eq_true c20b3
          try have c20b5:=eq_false (Nat.not_lt.2 c20b3)
          by_cases c21:a0_0=2
          · rw [if_pos c21] at H
            have c21b0:(a0_0==2)=true:=beq_iff_eq.mpr c21
            have c21b1:(a0_0 != 2)=false:=bne_eq_false_iff_eq.mpr c21
            clear c21
            by_cases c22:5+((t112++(⟨#[32]⟩:ByteArray))++t113).size≤9223372036854775807
            · rw [if_pos c22] at H
              have c22b0:=eq_true c22
              have c22b1:decide (5+((t112++(⟨#[32]⟩:ByteArray))++t113).size≤9223372036854775807)=true:=decide_eq_true c22
              try have c22b2:(9223372036854775807 < 5+((t112++(⟨#[32]⟩:ByteArray))++t113).size)=False:=eq_false (Nat.not_lt.2 c22)
              try have c22b3:=c22
              try simp only [ByteArray.size_append',sz1,sz2,sz3,sz4,sz5,sz6,sz7,sz8] at c22b3
              try have c22b4:=eq_true c22b3
              try have c22b5:=eq_false (Nat.not_lt.2 c22b3)
              obtain rfl:=Option.some.inj H
              go_enter Tryz.func8,Tryz.ntmps8
              try go_wp2_with (first|((with_reducible refine gate_dst (N:=1) rfl ?_);refine box_event ?hg (N:=1) ?hd (cs:=#[.int .i64 a0_0,.int .i64 a0_1,.string a0_2,.string a0_3,.int .i64 a0_4,.string a0_5,.string a0_6,.slice A0_7 l0_7.length c0_7,.slice A0_8 l0_8.length c0_8]) (t:=30) ?hr ?_;(case hd=>rfl);(case hg=>rfl);(case hr=>first|(go_simp;done)|(go_simp;rfl));intro gb108 hg w23 hbox hb;have n0_:=Aside0.mk (below_step (by repeat (first|(with_reducible first|exact HB.out|apply below_alloc|apply pw_below_drewN|apply below_drew1)|exact HB.out)) hb);have n1_:=Aside0.mk (hbox);have n2_:=Aside0.mk ((by rw [hg];exact (below_size (by repeat (first|(with_reducible first|exact HB.out|apply below_alloc|apply pw_below_drewN|apply below_drew1)|exact HB.out))):w.heap.size≤gb108));have n3_:=Aside0.mk ((by rw [hg];exact (below_size (by repeat (first|(with_reducible first|exact HB.out|apply below_alloc|apply pw_below_drewN|apply below_drew1)|exact HB.out))):w.heap.size≤gb108));clear HB;have HB:=n0_;have BK108:=n1_;have GW108:=n2_;have GE108:=n3_;clear n0_ n1_ n2_ n3_;clear hb hbox hg;have hcz24_0:w23.cell? ⟨gb108,0,none⟩=some (.int .i64 a0_0):=(blk_cell BK108.out 0).trans rfl;have hcz24_1:w23.cell? ⟨gb108,1,none⟩=some (.int .i64 a0_1):=(blk_cell BK108.out 1).trans rfl;have hcz24_2:w23.cell? ⟨gb108,2,none⟩=some (.string a0_2):=(blk_cell BK108.out 2).trans rfl;have hcz24_3:w23.cell? ⟨gb108,3,none⟩=some (.string a0_3):=(blk_cell BK108.out 3).trans rfl;have hcz24_4:w23.cell? ⟨gb108,4,none⟩=some (.int .i64 a0_4):=(blk_cell BK108.out 4).trans rfl;have hcz24_5:w23.cell? ⟨gb108,5,none⟩=some (.string a0_5):=(blk_cell BK108.out 5).trans rfl;have hcz24_6:w23.cell? ⟨gb108,6,none⟩=some (.string a0_6):=(blk_cell BK108.out 6).trans rfl;have hcz24_7:w23.cell? ⟨gb108,7,none⟩=some (.slice A0_7 l0_7.length c0_7):=(blk_cell BK108.out 7).trans rfl;have hcz24_8:w23.cell? ⟨gb108,8,none⟩=some (.slice A0_8 l0_8.length c0_8):=(blk_cell BK108.out 8).trans rfl;have hfz24_0:=blk_frozen BK108.out 0;have hfz24_1:=blk_frozen BK108.out 1;have hfz24_2:=blk_frozen BK108.out 2;have hfz24_3:=blk_frozen BK108.out 3;have hfz24_4:=blk_frozen BK108.out 4;have hfz24_5:=blk_frozen BK108.out 5;have hfz24_6:=blk_frozen BK108.out 6;have hfz24_7:=blk_frozen BK108.out 7;have hfz24_8:=blk_frozen BK108.out 8)|((with_reducible refine gate_callee (f:=10) rfl ?_);refine goesL_ (some 6) rfl rfl Tryz.func10 (by kernel_rfl) rfl #[.agg #[.int .i64 a0_0,.int .i64 a0_1,.string a0_2,.string a0_3,.int .i64 a0_4,.string a0_5,.string a0_6,.slice A0_7 l0_7.length c0_7,.slice A0_8 l0_8.length c0_8]] rfl (by (try simp only [List.map_toArray,List.map_cons,List.map_nil]);first|done|rfl|(simp only [List.length_drop,List.length_take];rfl)) ?_;(with_reducible refine (impl_NoteOk.calls k a0_0 a0_1 a0_2 a0_3 a0_4 a0_5 a0_6 _ _ l0_7 _ _ l0_8 true _ ?side1 ?side2 ?side3 ?side4 ?side5 A2.out).mono ?_);(case side1=>repeat (first|exact (Kd.C_below HR0_7.out HB.out)|(with_reducible refine Kd.C_alloc ?_ _)|(with_reducible refine Kd.C_drewN ?_ _)|(with_reducible refine Kd.C_drew ?_)));(case side2=>exact HC0_7.out);(case side3=>repeat (first|exact (Kd.C_below HR0_8.out HB.out)|(with_reducible refine Kd.C_alloc ?_ _)|(with_reducible refine Kd.C_drewN ?_ _)|(with_reducible refine Kd.C_drew ?_)));(case side4=>exact HC0_8.out);(case side5=>first|(with_reducible exact HG.out)|((with_reducible repeat (first|exact HG.out|apply GOK.drewN|apply GOK.drew));done)|exact GOK.below HG.out (by repeat (first|(with_reducible first|exact HB.out|apply below_alloc|apply pw_below_drewN|apply below_drew1|refine below_set ?_ GE108.out)|exact HB.out)));rintro e w25 ⟨rfl,hb⟩;refine ⟨_,rfl,?_⟩;have n0_:=Aside0.mk (blk_below (g:=gb108) (o:=.cells #[.int .i64 a0_0,.int .i64 a0_1,.string a0_2,.string a0_3,.int .i64 a0_4,.string a0_5,.string a0_6,.slice A0_7 l0_7.length c0_7,.slice A0_8 l0_8.length c0_8] 30 (0,0)) (by (with_reducible repeat (first|refine blk_drewN ?_ _|refine blk_drew ?_|refine blk_alloc ?_ _));exact BK108.out) hb);have n1_:=Aside0.mk (below_step (by repeat (first|(with_reducible first|exact HB.out|apply below_alloc|apply pw_below_drewN|apply below_drew1|refine below_set ?_ GE108.out)|exact HB.out)) hb);clear BK108;clear HB;have BK108:=n0_;have HB:=n1_;clear n0_ n1_;(try clear hb);(try clear hb2);(try clear hk);(try clear hi);have hcz26_0:w25.cell? ⟨gb108,0,none⟩=some (.int .i64 a0_0):=(blk_cell BK108.out 0).trans rfl;have hcz26_1:w25.cell? ⟨gb108,1,none⟩=some (.int .i64 a0_1):=(blk_cell BK108.out 1).trans rfl;have hcz26_2:w25.cell? ⟨gb108,2,none⟩=some (.string a0_2):=(blk_cell BK108.out 2).trans rfl;have hcz26_3:w25.cell? ⟨gb108,3,none⟩=some (.string a0_3):=(blk_cell BK108.out 3).trans rfl;have hcz26_4:w25.cell? ⟨gb108,4,none⟩=some (.int .i64 a0_4):=(blk_cell BK108.out 4).trans rfl;have hcz26_5:w25.cell? ⟨gb108,5,none⟩=some (.string a0_5):=(blk_cell BK108.out 5).trans rfl;have hcz26_6:w25.cell? ⟨gb108,6,none⟩=some (.string a0_6):=(blk_cell BK108.out 6).trans rfl;have hcz26_7:w25.cell? ⟨gb108,7,none⟩=some (.slice A0_7 l0_7.length c0_7):=(blk_cell BK108.out 7).trans rfl;have hcz26_8:w25.cell? ⟨gb108,8,none⟩=some (.slice A0_8 l0_8.length c0_8):=(blk_cell BK108.out 8).trans rfl;have hfz26_0:=blk_frozen BK108.out 0;have hfz26_1:=blk_frozen BK108.out 1;have hfz26_2:=blk_frozen BK108.out 2;have hfz26_3:=blk_frozen BK108.out 3;have hfz26_4:=blk_frozen BK108.out 4;have hfz26_5:=blk_frozen BK108.out 5;have hfz26_6:=blk_frozen BK108.out 6;have hfz26_7:=blk_frozen BK108.out 7;have hfz26_8:=blk_frozen BK108.out 8)|((with_reducible refine gate_callee (f:=22) rfl ?_);refine goesL_ (some 10) rfl rfl Tryz.func22 (by kernel_rfl) rfl #[.int .i64 a0_4] rfl (by (try simp only [List.map_toArray,List.map_cons,List.map_nil]);first|done|rfl|(simp only [List.length_drop,List.length_take];rfl)) ?_;(with_reducible refine (strconv_Itoa.calls a0_4 t110 _ ?side1 A4.out).mono ?_);(case side1=>first|(with_reducible exact HG.out)|((with_reducible repeat (first|exact HG.out|apply GOK.drewN|apply GOK.drew));done)|exact GOK.below HG.out (by repeat (first|(with_reducible first|exact HB.out|apply below_alloc|apply pw_below_drewN|apply below_drew1|refine below_set ?_ GE108.out)|exact HB.out)));rintro e w27 ⟨rfl,hb⟩;refine ⟨_,rfl,?_⟩;have n0_:=Aside0.mk (blk_below (g:=gb108) (o:=.cells #[.int .i64 a0_0,.int .i64 a0_1,.string a0_2,.string a0_3,.int .i64 a0_4,.string a0_5,.string a0_6,.slice A0_7 l0_7.length c0_7,.slice A0_8 l0_8.length c0_8] 30 (0,0)) (by (with_reducible repeat (first|refine blk_drewN ?_ _|refine blk_drew ?_|refine blk_alloc ?_ _));exact BK108.out) hb);have n1_:=Aside0.mk (below_step (by repeat (first|(with_reducible first|exact HB.out|apply below_alloc|apply pw_below_drewN|apply below_drew1|refine below_set ?_ GE108.out)|exact HB.out)) hb);clear BK108;clear HB;have BK108:=n0_;have HB:=n1_;clear n0_ n1_;(try clear hb);(try clear hb2);(try clear hk);(try clear hi);have hcz28_0:w27.cell? ⟨gb108,0,none⟩=some (.int .i64 a0_0):=(blk_cell BK108.out 0).trans rfl;have hcz28_1:w27.cell? ⟨gb108,1,none⟩=some (.int .i64 a0_1):=(blk_cell BK108.out 1).trans rfl;have hcz28_2:w27.cell? ⟨gb108,2,none⟩=some (.string a0_2):=(blk_cell BK108.out 2).trans rfl;have hcz28_3:w27.cell? ⟨gb108,3,none⟩=some (.string a0_3):=(blk_cell BK108.out 3).trans rfl;have hcz28_4:w27.cell? ⟨gb108,4,none⟩=some (.int .i64 a0_4):=(blk_cell BK108.out 4).trans rfl;have hcz28_5:w27.cell? ⟨gb108,5,none⟩=some (.string a0_5):=(blk_cell BK108.out 5).trans rfl;have hcz28_6:w27.cell? ⟨gb108,6,none⟩=some (.string a0_6):=(blk_cell BK108.out 6).trans rfl;have hcz28_7:w27.cell? ⟨gb108,7,none⟩=some (.slice A0_7 l0_7.length c0_7):=(blk_cell BK108.out 7).trans rfl;have hcz28_8:w27.cell? ⟨gb108,8,none⟩=some (.slice A0_8 l0_8.length c0_8):=(blk_cell BK108.out 8).trans rfl;have hfz28_0:=blk_frozen BK108.out 0;have hfz28_1:=blk_frozen BK108.out 1;have hfz28_2:=blk_frozen BK108.out 2;have hfz28_3:=blk_frozen BK108.out 3;have hfz28_4:=blk_frozen BK108.out 4;have hfz28_5:=blk_frozen BK108.out 5;have hfz28_6:=blk_frozen BK108.out 6;have hfz28_7:=blk_frozen BK108.out 7;have hfz28_8:=blk_frozen BK108.out 8))
              have n0_:=Aside0.mk (blk_drew BK108.out)
              have n1_:=Aside0.mk (below_drew1 HB.out)
              clear BK108
              clear HB
              have BK108:=n0_
              have HB:=n1_
              clear n0_ n1_
              refine start_ (n:=9) (S:=fun w'=>w'.cell? ⟨gb108,0,none⟩=some (.int .i64 a0_0)∧w'.cell? ⟨gb108,1,none⟩=some (.int .i64 a0_1)∧w'.cell? ⟨gb108,2,none⟩=some (.string a0_2)∧w'.cell? ⟨gb108,3,none⟩=some (.string a0_3)∧w'.cell? ⟨gb108,4,none⟩=some (.int .i64 a0_4)∧w'.cell? ⟨gb108,5,none⟩=some (.string a0_5)∧w'.cell? ⟨gb108,6,none⟩=some (.string a0_6)∧w'.cell? ⟨gb108,7,none⟩=some (.slice A0_7 l0_7.length c0_7)∧w'.cell? ⟨gb108,8,none⟩=some (.slice A0_8 l0_8.length c0_8)) (ds:=[]) #[false,false,false,false,false,false,false,false,false] (by kernel_rfl) rfl rfl ⟨(blk_cell BK108.out 0).trans rfl,(blk_cell BK108.out 1).trans rfl,(blk_cell BK108.out 2).trans rfl,(blk_cell BK108.out 3).trans rfl,(blk_cell BK108.out 4).trans rfl,(blk_cell BK108.out 5).trans rfl,(blk_cell BK108.out 6).trans rfl,(blk_cell BK108.out 7).trans rfl,(blk_cell BK108.out 8).trans rfl⟩ (fun hHeld=>?_);refine with_tabW impl_NotePut.tab6 impl_NotePut.bits6 (fun HT_ HW_=>?_)
              generalize w27.drew=w29 at BK108 HB hHeld ⊢
              refine pure_ (i:=0) (N:=some 21) (v:=?_) (a':=?_) #[true,false,false,false,false,false,false,false,false] rfl rfl (any_of HT_.out (by kernel_rfl)) (fun _ _ _ h=>h) (Or.inl ⟨by rfl,?_⟩) ?_ ?_
              rotate_left
              · intro w'
                go_simp
                with_reducible rfl
              rotate_left
              · simp only [Act.put,List.setIfInBounds_toArray,List.set_cons_zero,List.set_cons_succ,i64_w,i32_w]
                rfl
              refine pure_ (i:=4) (N:=some 25) (v:=?_) (a':=?_) #[true,false,false,false,true,false,false,false,false] rfl rfl (any_of HT_.out (by kernel_rfl)) (fun _ _ _ h=>h) (Or.inl ⟨by rfl,?_⟩) ?_ ?_
              rotate_left
              · intro w'
                go_simp
                with_reducible rfl
              rotate_left
              · simp only [Act.put,List.setIfInBounds_toArray,List.set_cons_zero,List.set_cons_succ,i64_w,i32_w]
                rfl
              refine take_ (i:=1) (N:=some 22) (v:=?_) (a':=?_) #[true,true,false,false,true,false,false,false,false] rfl rfl (take_ofW HT_.out HW_.out (by kernel_rfl)) (fun _ _ _ h=>h) (Or.inl ⟨by rfl,?_⟩) hHeld ?_ ?_
              rotate_left
              · rintro w' ⟨s0,s1,s2,s3,s4,s5,s6,s7,s8⟩
                go_simp
                with_reducible rfl
              rotate_left
              · simp only [Act.put,List.setIfInBounds_toArray,List.set_cons_zero,List.set_cons_succ,i64_w,i32_w]
                rfl
              refine take_ (i:=5) (N:=some 26) (v:=?_) (a':=?_) #[true,true,false,false,true,true,false,false,false] rfl rfl (take_ofW HT_.out HW_.out (by kernel_rfl)) (fun _ _ _ h=>h) (Or.inl ⟨by rfl,?_⟩) hHeld ?_ ?_
              rotate_left
              · rintro w' ⟨s0,s1,s2,s3,s4,s5,s6,s7,s8⟩
                go_simp
                with_reducible rfl
              rotate_left
              · simp only [Act.put,List.setIfInBounds_toArray,List.set_cons_zero,List.set_cons_succ,i64_w,i32_w]
                rfl
              refine one_ (i:=2) (N:=some 23) #[true,true,true,false,true,true,false,false,false] rfl rfl (one_of HT_.out (by kernel_rfl)) (by decide) (fun K hK=>?_)
              refine goes_ Tryz.func22 (by kernel_rfl) rfl #[.int .i64 a0_1] (by rfl) rfl rfl (by (try simp only [List.map_toArray,List.map_cons,List.map_nil]);first|done|rfl|(simp only [List.length_drop,List.length_take];rfl)) ?_
              with_reducible refine (strconv_Itoa.calls a0_1 t112 _ ?side1 A17.out).mono ?_
              (case side1=>first|(with_reducible exact HG.out)|((with_reducible repeat (first|exact HG.out|apply GOK.drewN|apply GOK.drew));done)|exact GOK.below HG.out (by repeat (first|(with_reducible first|exact HB.out|apply below_alloc|apply pw_below_drewN|apply below_drew1|refine below_set ?_ GE108.out)|exact HB.out)))
              rintro e w30 ⟨rfl,hb⟩
              refine ⟨_,rfl,?_⟩
              have n0_:=Aside0.mk (blk_below (g:=gb108) (o:=.cells #[.int .i64 a0_0,.int .i64 a0_1,.string a0_2,.string a0_3,.int .i64 a0_4,.string a0_5,.string a0_6,.slice A0_7 l0_7.length c0_7,.slice A0_8 l0_8.length c0_8] 30 (0,0)) (by (with_reducible repeat (first|refine blk_drewN ?_ _|refine blk_drew ?_|refine blk_alloc ?_ _));exact BK108.out) hb)
              have n1_:=Aside0.mk (below_step (by repeat (first|(with_reducible first|exact HB.out|apply below_alloc|apply pw_below_drewN|apply below_drew1|refine below_set ?_ GE108.out)|exact HB.out)) hb)
              clear BK108
              clear HB
              have BK108:=n0_
              have HB:=n1_
              clear n0_ n1_
              (try clear hb)
              (try clear hb2)
              (try clear hk)
              (try clear hi)
              refine hK.out _ _ ⟨(blk_cell BK108.out 0).trans rfl,(blk_cell BK108.out 1).trans rfl,(blk_cell BK108.out 2).trans rfl,(blk_cell BK108.out 3).trans rfl,(blk_cell BK108.out 4).trans rfl,(blk_cell BK108.out 5).trans rfl,(blk_cell BK108.out 6).trans rfl,(blk_cell BK108.out 7).trans rfl,(blk_cell BK108.out 8).trans rfl⟩ (fun hHeld=>?_)
              clear hK K
              refine norm_ (a':=?_) ?_ ?_
              rotate_left
              · show Act.put _ (some 23) _=_
                simp only [Act.put,List.setIfInBounds_toArray,List.set_cons_zero,List.set_cons_succ,i64_w,i32_w]
                rfl
              refine pure_ (i:=3) (N:=some 24) (v:=?_) (a':=?_) #[true,true,true,true,true,true,false,false,false] rfl rfl (any_of HT_.out (by kernel_rfl)) (fun _ _ _ h=>h) (Or.inl ⟨by rfl,?_⟩) ?_ ?_
              rotate_left
              · intro w'
                go_simp
                with_reducible rfl
              rotate_left
              · simp only [Act.put,List.setIfInBounds_toArray,List.set_cons_zero,List.set_cons_succ,i64_w,i32_w]
                rfl
              refine one_ (i:=6) (N:=some 27) #[true,true,true,true,true,true,true,false,false] rfl rfl (one_of HT_.out (by kernel_rfl)) (by decide) (fun K hK=>?_)
              refine goes_ Tryz.func24 (by kernel_rfl) rfl #[.agg #[.string a0_2,.string a0_3]] (by rfl) rfl rfl (by (try simp only [List.map_toArray,List.map_cons,List.map_nil]);first|done|rfl|(simp only [List.length_drop,List.length_take];rfl)) ?_
              with_reducible refine (impl_Addr_text.calls a0_2 a0_3 t113 _ A19.out).mono ?_
              rintro e w31 ⟨rfl,hb⟩
              refine ⟨_,rfl,?_⟩
              have n0_:=Aside0.mk (blk_below (g:=gb108) (o:=.cells #[.int .i64 a0_0,.int .i64 a0_1,.string a0_2,.string a0_3,.int .i64 a0_4,.string a0_5,.string a0_6,.slice A0_7 l0_7.length c0_7,.slice A0_8 l0_8.length c0_8] 30 (0,0)) (by (with_reducible repeat (first|refine blk_drewN ?_ _|refine blk_drew ?_|refine blk_alloc ?_ _));exact BK108.out) hb)
              have n1_:=Aside0.mk (below_step (by repeat (first|(with_reducible first|exact HB.out|apply below_alloc|apply pw_below_drewN|apply below_drew1|refine below_set ?_ GE108.out)|exact HB.out)) hb)
              clear BK108
              clear HB
              have BK108:=n0_
              have HB:=n1_
              clear n0_ n1_
              (try clear hb)
              (try clear hb2)
              (try clear hk)
              (try clear hi)
              refine hK.out _ _ ⟨(blk_cell BK108.out 0).trans rfl,(blk_cell BK108.out 1).trans rfl,(blk_cell BK108.out 2).trans rfl,(blk_cell BK108.out 3).trans rfl,(blk_cell BK108.out 4).trans rfl,(blk_cell BK108.out 5).trans rfl,(blk_cell BK108.out 6).trans rfl,(blk_cell BK108.out 7).trans rfl,(blk_cell BK108.out 8).trans rfl⟩ (fun hHeld=>?_)
              clear hK K
              refine norm_ (a':=?_) ?_ ?_
              rotate_left
              · show Act.put _ (some 27) _=_
                simp only [Act.put,List.setIfInBounds_toArray,List.set_cons_zero,List.set_cons_succ,i64_w,i32_w]
                rfl
              refine pure_ (i:=7) (N:=some 28) (v:=?_) (a':=?_) #[true,true,true,true,true,true,true,true,false] rfl rfl (any_of HT_.out (by kernel_rfl)) (fun _ _ _ h=>h) (Or.inl ⟨by rfl,?_⟩) ?_ ?_
              rotate_left
              · intro w'
                go_simp
                with_reducible rfl
              rotate_left
              · simp only [Act.put,List.setIfInBounds_toArray,List.set_cons_zero,List.set_cons_succ,i64_w,i32_w]
                rfl
              refine pure_ (i:=8) (N:=some 4) (v:=?_) (a':=?_) #[true,true,true,true,true,true,true,true,true] rfl rfl (any_of HT_.out (by kernel_rfl)) (fun _ _ _ h=>h) (Or.inl ⟨by rfl,?_⟩) ?_ ?_
              rotate_left
              · intro w'
                go_simp
                with_reducible rfl
              rotate_left
              · simp only [Act.put,List.setIfInBounds_toArray,List.set_cons_zero,List.set_cons_succ,i64_w,i32_w]
                rfl
              refine done_ (done_of HT_.out (by kernel_rfl)) ?_
              have hcz32_0:w31.cell? ⟨gb108,0,none⟩=some (.int .i64 a0_0):=(blk_cell BK108.out 0).trans rfl
              have hcz32_1:w31.cell? ⟨gb108,1,none⟩=some (.int .i64 a0_1):=(blk_cell BK108.out 1).trans rfl
              have hcz32_2:w31.cell? ⟨gb108,2,none⟩=some (.string a0_2):=(blk_cell BK108.out 2).trans rfl
              have hcz32_3:w31.cell? ⟨gb108,3,none⟩=some (.string a0_3):=(blk_cell BK108.out 3).trans rfl
              have hcz32_4:w31.cell? ⟨gb108,4,none⟩=some (.int .i64 a0_4):=(blk_cell BK108.out 4).trans rfl
              have hcz32_5:w31.cell? ⟨gb108,5,none⟩=some (.string a0_5):=(blk_cell BK108.out 5).trans rfl
              have hcz32_6:w31.cell? ⟨gb108,6,none⟩=some (.string a0_6):=(blk_cell BK108.out 6).trans rfl
              have hcz32_7:w31.cell? ⟨gb108,7,none⟩=some (.slice A0_7 l0_7.length c0_7):=(blk_cell BK108.out 7).trans rfl
              have hcz32_8:w31.cell? ⟨gb108,8,none⟩=some (.slice A0_8 l0_8.length c0_8):=(blk_cell BK108.out 8).trans rfl
              have hfz32_0:=blk_frozen BK108.out 0
              have hfz32_1:=blk_frozen BK108.out 1
              have hfz32_2:=blk_frozen BK108.out 2
              have hfz32_3:=blk_frozen BK108.out 3
              have hfz32_4:=blk_frozen BK108.out 4
              have hfz32_5:=blk_frozen BK108.out 5
              have hfz32_6:=blk_frozen BK108.out 6
              have hfz32_7:=blk_frozen BK108.out 7
              have hfz32_8:=blk_frozen BK108.out 8
              try go_wp2
              go_ret
              exact ⟨by first|rfl|(simp [errW_none,errW_some]<;>rfl)|(simp [*,errW_none,errW_some]<;>rfl),by repeat (first|(with_reducible first|exact HB.out|apply below_alloc|apply pw_below_drewN|apply below_drew1|refine below_set ?_ GE108.out)|exact HB.out)⟩
            · rw [if_neg c22] at H
              exact absurd H (by simp)
          · rw [if_neg c21] at H
            have c21b0:(a0_0==2)=false:=beq_eq_false_iff_ne.mpr c21
            have c21b1:(a0_0 != 2)=true:=bne_iff_ne.mpr c21
            by_cases c33:6+((t112++(⟨#[32]⟩:ByteArray))++t113).size≤9223372036854775807
            · rw [if_pos c33] at H
              have c33b0:=eq_true c33
              have c33b1:decide (6+((t112++(⟨#[32]⟩:ByteArray))++t113).size≤9223372036854775807)=true:=decide_eq_true c33
              try have c33b2:(9223372036854775807 < 6+((t112++(⟨#[32]⟩:ByteArray))++t113).size)=False:=eq_false (Nat.not_lt.2 c33)
              try have c33b3:=c33
              try simp only [ByteArray.size_append',sz1,sz2,sz3,sz4,sz5,sz6,sz7,sz8] at c33b3
              try have c33b4:=eq_true c33b3
              try have c33b5:=eq_false (Nat.not_lt.2 c33b3)
              by_cases c34:((⟨#[108,97,116,101,114,32]⟩:ByteArray)++((t112++(⟨#[32]⟩:ByteArray))++t113)).size+1≤9223372036854775807
              · rw [if_pos c34] at H
                have c34b0:=eq_true c34
                have c34b1:decide (((⟨#[108,97,116,101,114,32]⟩:ByteArray)++((t112++(⟨#[32]⟩:ByteArray))++t113)).size+1≤9223372036854775807)=true:=decide_eq_true c34
                try have c34b2:(9223372036854775807 < ((⟨#[108,97,116,101,114,32]⟩:ByteArray)++((t112++(⟨#[32]⟩:ByteArray))++t113)).size+1)=False:=eq_false (Nat.not_lt.2 c34)
                try have c34b3:=c34
                try simp only [ByteArray.size_append',sz1,sz2,sz3,sz4,sz5,sz6,sz7,sz8] at c34b3
                try have c34b4:=eq_true c34b3
                try have c34b5:=eq_false (Nat.not_lt.2 c34b3)
                by_cases c35:(((⟨#[108,97,116,101,114,32]⟩:ByteArray)++((t112++(⟨#[32]⟩:ByteArray))++t113))++(⟨#[32]⟩:ByteArray)).size+t110.size≤9223372036854775807
                · rw [if_pos c35] at H
                  have c35b0:=eq_true c35
                  have c35b1:decide ((((⟨#[108,97,116,101,114,32]⟩:ByteArray)++((t112++(⟨#[32]⟩:ByteArray))++t113))++(⟨#[32]⟩:ByteArray)).size+t110.size≤9223372036854775807)=true:=decide_eq_true c35
                  try have c35b2:(9223372036854775807 < (((⟨#[108,97,116,101,114,32]⟩:ByteArray)++((t112++(⟨#[32]⟩:ByteArray))++t113))++(⟨#[32]⟩:ByteArray)).size+t110.size)=False:=eq_false (Nat.not_lt.2 c35)
                  try have c35b3:=c35
                  try simp only [ByteArray.size_append',sz1,sz2,sz3,sz4,sz5,sz6,sz7,sz8] at c35b3
                  try have c35b4:=eq_true c35b3
                  try have c35b5:=eq_false (Nat.not_lt.2 c35b3)
                  obtain rfl:=Option.some.inj H
                  go_enter Tryz.func8,Tryz.ntmps8
                  try go_wp2_with (first|((with_reducible refine gate_dst (N:=1) rfl ?_);refine box_event ?hg (N:=1) ?hd (cs:=#[.int .i64 a0_0,.int .i64 a0_1,.string a0_2,.string a0_3,.int .i64 a0_4,.string a0_5,.string a0_6,.slice A0_7 l0_7.length c0_7,.slice A0_8 l0_8.length c0_8]) (t:=30) ?hr ?_;(case hd=>rfl);(case hg=>rfl);(case hr=>first|(go_simp;done)|(go_simp;rfl));intro gb108 hg w36 hbox hb;have n0_:=Aside0.mk (below_step (by repeat (first|(with_reducible first|exact HB.out|apply below_alloc|apply pw_below_drewN|apply below_drew1)|exact HB.out)) hb);have n1_:=Aside0.mk (hbox);have n2_:=Aside0.mk ((by rw [hg];exact (below_size (by repeat (first|(with_reducible first|exact HB.out|apply below_alloc|apply pw_below_drewN|apply below_drew1)|exact HB.out))):w.heap.size≤gb108));have n3_:=Aside0.mk ((by rw [hg];exact (below_size (by repeat (first|(with_reducible first|exact HB.out|apply below_alloc|apply pw_below_drewN|apply below_drew1)|exact HB.out))):w.heap.size≤gb108));clear HB;have HB:=n0_;have BK108:=n1_;have GW108:=n2_;have GE108:=n3_;clear n0_ n1_ n2_ n3_;clear hb hbox hg;have hcz37_0:w36.cell? ⟨gb108,0,none⟩=some (.int .i64 a0_0):=(blk_cell BK108.out 0).trans rfl;have hcz37_1:w36.cell? ⟨gb108,1,none⟩=some (.int .i64 a0_1):=(blk_cell BK108.out 1).trans rfl;have hcz37_2:w36.cell? ⟨gb108,2,none⟩=some (.string a0_2):=(blk_cell BK108.out 2).trans rfl;have hcz37_3:w36.cell? ⟨gb108,3,none⟩=some (.string a0_3):=(blk_cell BK108.out 3).trans rfl;have hcz37_4:w36.cell? ⟨gb108,4,none⟩=some (.int .i64 a0_4):=(blk_cell BK108.out 4).trans rfl;have hcz37_5:w36.cell? ⟨gb108,5,none⟩=some (.string a0_5):=(blk_cell BK108.out 5).trans rfl;have hcz37_6:w36.cell? ⟨gb108,6,none⟩=some (.string a0_6):=(blk_cell BK108.out 6).trans rfl;have hcz37_7:w36.cell? ⟨gb108,7,none⟩=some (.slice A0_7 l0_7.length c0_7):=(blk_cell BK108.out 7).trans rfl;have hcz37_8:w36.cell? ⟨gb108,8,none⟩=some (.slice A0_8 l0_8.length c0_8):=(blk_cell BK108.out 8).trans rfl;have hfz37_0:=blk_frozen BK108.out 0;have hfz37_1:=blk_frozen BK108.out 1;have hfz37_2:=blk_frozen BK108.out 2;have hfz37_3:=blk_frozen BK108.out 3;have hfz37_4:=blk_frozen BK108.out 4;have hfz37_5:=blk_frozen BK108.out 5;have hfz37_6:=blk_frozen BK108.out 6;have hfz37_7:=blk_frozen BK108.out 7;have hfz37_8:=blk_frozen BK108.out 8)|((with_reducible refine gate_callee (f:=10) rfl ?_);refine goesL_ (some 6) rfl rfl Tryz.func10 (by kernel_rfl) rfl #[.agg #[.int .i64 a0_0,.int .i64 a0_1,.string a0_2,.string a0_3,.int .i64 a0_4,.string a0_5,.string a0_6,.slice A0_7 l0_7.length c0_7,.slice A0_8 l0_8.length c0_8]] rfl (by (try simp only [List.map_toArray,List.map_cons,List.map_nil]);first|done|rfl|(simp only [List.length_drop,List.length_take];rfl)) ?_;(with_reducible refine (impl_NoteOk.calls k a0_0 a0_1 a0_2 a0_3 a0_4 a0_5 a0_6 _ _ l0_7 _ _ l0_8 true _ ?side1 ?side2 ?side3 ?side4 ?side5 A2.out).mono ?_);(case side1=>repeat (first|exact (Kd.C_below HR0_7.out HB.out)|(with_reducible refine Kd.C_alloc ?_ _)|(with_reducible refine Kd.C_drewN ?_ _)|(with_reducible refine Kd.C_drew ?_)));(case side2=>exact HC0_7.out);(case side3=>repeat (first|exact (Kd.C_below HR0_8.out HB.out)|(with_reducible refine Kd.C_alloc ?_ _)|(with_reducible refine Kd.C_drewN ?_ _)|(with_reducible refine Kd.C_drew ?_)));(case side4=>exact HC0_8.out);(case side5=>first|(with_reducible exact HG.out)|((with_reducible repeat (first|exact HG.out|apply GOK.drewN|apply GOK.drew));done)|exact GOK.below HG.out (by repeat (first|(with_reducible first|exact HB.out|apply below_alloc|apply pw_below_drewN|apply below_drew1|refine below_set ?_ GE108.out)|exact HB.out)));rintro e w38 ⟨rfl,hb⟩;refine ⟨_,rfl,?_⟩;have n0_:=Aside0.mk (blk_below (g:=gb108) (o:=.cells #[.int .i64 a0_0,.int .i64 a0_1,.string a0_2,.string a0_3,.int .i64 a0_4,.string a0_5,.string a0_6,.slice A0_7 l0_7.length c0_7,.slice A0_8 l0_8.length c0_8] 30 (0,0)) (by (with_reducible repeat (first|refine blk_drewN ?_ _|refine blk_drew ?_|refine blk_alloc ?_ _));exact BK108.out) hb);have n1_:=Aside0.mk (below_step (by repeat (first|(with_reducible first|exact HB.out|apply below_alloc|apply pw_below_drewN|apply below_drew1|refine below_set ?_ GE108.out)|exact HB.out)) hb);clear BK108;clear HB;have BK108:=n0_;have HB:=n1_;clear n0_ n1_;(try clear hb);(try clear hb2);(try clear hk);(try clear hi);have hcz39_0:w38.cell? ⟨gb108,0,none⟩=some (.int .i64 a0_0):=(blk_cell BK108.out 0).trans rfl;have hcz39_1:w38.cell? ⟨gb108,1,none⟩=some (.int .i64 a0_1):=(blk_cell BK108.out 1).trans rfl;have hcz39_2:w38.cell? ⟨gb108,2,none⟩=some (.string a0_2):=(blk_cell BK108.out 2).trans rfl;have hcz39_3:w38.cell? ⟨gb108,3,none⟩=some (.string a0_3):=(blk_cell BK108.out 3).trans rfl;have hcz39_4:w38.cell? ⟨gb108,4,none⟩=some (.int .i64 a0_4):=(blk_cell BK108.out 4).trans rfl;have hcz39_5:w38.cell? ⟨gb108,5,none⟩=some (.string a0_5):=(blk_cell BK108.out 5).trans rfl;have hcz39_6:w38.cell? ⟨gb108,6,none⟩=some (.string a0_6):=(blk_cell BK108.out 6).trans rfl;have hcz39_7:w38.cell? ⟨gb108,7,none⟩=some (.slice A0_7 l0_7.length c0_7):=(blk_cell BK108.out 7).trans rfl;have hcz39_8:w38.cell? ⟨gb108,8,none⟩=some (.slice A0_8 l0_8.length c0_8):=(blk_cell BK108.out 8).trans rfl;have hfz39_0:=blk_frozen BK108.out 0;have hfz39_1:=blk_frozen BK108.out 1;have hfz39_2:=blk_frozen BK108.out 2;have hfz39_3:=blk_frozen BK108.out 3;have hfz39_4:=blk_frozen BK108.out 4;have hfz39_5:=blk_frozen BK108.out 5;have hfz39_6:=blk_frozen BK108.out 6;have hfz39_7:=blk_frozen BK108.out 7;have hfz39_8:=blk_frozen BK108.out 8)|((with_reducible refine gate_callee (f:=22) rfl ?_);refine goesL_ (some 10) rfl rfl Tryz.func22 (by kernel_rfl) rfl #[.int .i64 a0_4] rfl (by (try simp only [List.map_toArray,List.map_cons,List.map_nil]);first|done|rfl|(simp only [List.length_drop,List.length_take];rfl)) ?_;(with_reducible refine (strconv_Itoa.calls a0_4 t110 _ ?side1 A4.out).mono ?_);(case side1=>first|(with_reducible exact HG.out)|((with_reducible repeat (first|exact HG.out|apply GOK.drewN|apply GOK.drew));done)|exact GOK.below HG.out (by repeat (first|(with_reducible first|exact HB.out|apply below_alloc|apply pw_below_drewN|apply below_drew1|refine below_set ?_ GE108.out)|exact HB.out)));rintro e w40 ⟨rfl,hb⟩;refine ⟨_,rfl,?_⟩;have n0_:=Aside0.mk (blk_below (g:=gb108) (o:=.cells #[.int .i64 a0_0,.int .i64 a0_1,.string a0_2,.string a0_3,.int .i64 a0_4,.string a0_5,.string a0_6,.slice A0_7 l0_7.length c0_7,.slice A0_8 l0_8.length c0_8] 30 (0,0)) (by (with_reducible repeat (first|refine blk_drewN ?_ _|refine blk_drew ?_|refine blk_alloc ?_ _));exact BK108.out) hb);have n1_:=Aside0.mk (below_step (by repeat (first|(with_reducible first|exact HB.out|apply below_alloc|apply pw_below_drewN|apply below_drew1|refine below_set ?_ GE108.out)|exact HB.out)) hb);clear BK108;clear HB;have BK108:=n0_;have HB:=n1_;clear n0_ n1_;(try clear hb);(try clear hb2);(try clear hk);(try clear hi);have hcz41_0:w40.cell? ⟨gb108,0,none⟩=some (.int .i64 a0_0):=(blk_cell BK108.out 0).trans rfl;have hcz41_1:w40.cell? ⟨gb108,1,none⟩=some (.int .i64 a0_1):=(blk_cell BK108.out 1).trans rfl;have hcz41_2:w40.cell? ⟨gb108,2,none⟩=some (.string a0_2):=(blk_cell BK108.out 2).trans rfl;have hcz41_3:w40.cell? ⟨gb108,3,none⟩=some (.string a0_3):=(blk_cell BK108.out 3).trans rfl;have hcz41_4:w40.cell? ⟨gb108,4,none⟩=some (.int .i64 a0_4):=(blk_cell BK108.out 4).trans rfl;have hcz41_5:w40.cell? ⟨gb108,5,none⟩=some (.string a0_5):=(blk_cell BK108.out 5).trans rfl;have hcz41_6:w40.cell? ⟨gb108,6,none⟩=some (.string a0_6):=(blk_cell BK108.out 6).trans rfl;have hcz41_7:w40.cell? ⟨gb108,7,none⟩=some (.slice A0_7 l0_7.length c0_7):=(blk_cell BK108.out 7).trans rfl;have hcz41_8:w40.cell? ⟨gb108,8,none⟩=some (.slice A0_8 l0_8.length c0_8):=(blk_cell BK108.out 8).trans rfl;have hfz41_0:=blk_frozen BK108.out 0;have hfz41_1:=blk_frozen BK108.out 1;have hfz41_2:=blk_frozen BK108.out 2;have hfz41_3:=blk_frozen BK108.out 3;have hfz41_4:=blk_frozen BK108.out 4;have hfz41_5:=blk_frozen BK108.out 5;have hfz41_6:=blk_frozen BK108.out 6;have hfz41_7:=blk_frozen BK108.out 7;have hfz41_8:=blk_frozen BK108.out 8))
                  have n0_:=Aside0.mk (blk_drew BK108.out)
                  have n1_:=Aside0.mk (below_drew1 HB.out)
                  clear BK108
                  clear HB
                  have BK108:=n0_
                  have HB:=n1_
                  clear n0_ n1_
                  refine start_ (n:=9) (S:=fun w'=>w'.cell? ⟨gb108,0,none⟩=some (.int .i64 a0_0)∧w'.cell? ⟨gb108,1,none⟩=some (.int .i64 a0_1)∧w'.cell? ⟨gb108,2,none⟩=some (.string a0_2)∧w'.cell? ⟨gb108,3,none⟩=some (.string a0_3)∧w'.cell? ⟨gb108,4,none⟩=some (.int .i64 a0_4)∧w'.cell? ⟨gb108,5,none⟩=some (.string a0_5)∧w'.cell? ⟨gb108,6,none⟩=some (.string a0_6)∧w'.cell? ⟨gb108,7,none⟩=some (.slice A0_7 l0_7.length c0_7)∧w'.cell? ⟨gb108,8,none⟩=some (.slice A0_8 l0_8.length c0_8)) (ds:=[]) #[false,false,false,false,false,false,false,false,false] (by kernel_rfl) rfl rfl ⟨(blk_cell BK108.out 0).trans rfl,(blk_cell BK108.out 1).trans rfl,(blk_cell BK108.out 2).trans rfl,(blk_cell BK108.out 3).trans rfl,(blk_cell BK108.out 4).trans rfl,(blk_cell BK108.out 5).trans rfl,(blk_cell BK108.out 6).trans rfl,(blk_cell BK108.out 7).trans rfl,(blk_cell BK108.out 8).trans rfl⟩ (fun hHeld=>?_);refine with_tabW impl_NotePut.tab6 impl_NotePut.bits6 (fun HT_ HW_=>?_)
                  generalize w40.drew=w42 at BK108 HB hHeld ⊢
                  refine pure_ (i:=0) (N:=some 21) (v:=?_) (a':=?_) #[true,false,false,false,false,false,false,false,false] rfl rfl (any_of HT_.out (by kernel_rfl)) (fun _ _ _ h=>h) (Or.inl ⟨by rfl,?_⟩) ?_ ?_
                  rotate_left
                  · intro w'
                    go_simp
                    with_reducible rfl
                  rotate_left
                  · simp only [Act.put,List.setIfInBounds_toArray,List.set_cons_zero,List.set_cons_succ,i64_w,i32_w]
                    rfl
                  refine pure_ (i:=4) (N:=some 25) (v:=?_) (a':=?_) #[true,false,false,false,true,false,false,false,false] rfl rfl (any_of HT_.out (by kernel_rfl)) (fun _ _ _ h=>h) (Or.inl ⟨by rfl,?_⟩) ?_ ?_
                  rotate_left
                  · intro w'
                    go_simp
                    with_reducible rfl
                  rotate_left
                  · simp only [Act.put,List.setIfInBounds_toArray,List.set_cons_zero,List.set_cons_succ,i64_w,i32_w]
                    rfl
                  refine take_ (i:=1) (N:=some 22) (v:=?_) (a':=?_) #[true,true,false,false,true,false,false,false,false] rfl rfl (take_ofW HT_.out HW_.out (by kernel_rfl)) (fun _ _ _ h=>h) (Or.inl ⟨by rfl,?_⟩) hHeld ?_ ?_
                  rotate_left
                  · rintro w' ⟨s0,s1,s2,s3,s4,s5,s6,s7,s8⟩
                    go_simp
                    with_reducible rfl
                  rotate_left
                  · simp only [Act.put,List.setIfInBounds_toArray,List.set_cons_zero,List.set_cons_succ,i64_w,i32_w]
                    rfl
                  refine take_ (i:=5) (N:=some 26) (v:=?_) (a':=?_) #[true,true,false,false,true,true,false,false,false] rfl rfl (take_ofW HT_.out HW_.out (by kernel_rfl)) (fun _ _ _ h=>h) (Or.inl ⟨by rfl,?_⟩) hHeld ?_ ?_
                  rotate_left
                  · rintro w' ⟨s0,s1,s2,s3,s4,s5,s6,s7,s8⟩
                    go_simp
                    with_reducible rfl
                  rotate_left
                  · simp only [Act.put,List.setIfInBounds_toArray,List.set_cons_zero,List.set_cons_succ,i64_w,i32_w]
                    rfl
                  refine one_ (i:=2) (N:=some 23) #[true,true,true,false,true,true,false,false,false] rfl rfl (one_of HT_.out (by kernel_rfl)) (by decide) (fun K hK=>?_)
                  refine goes_ Tryz.func22 (by kernel_rfl) rfl #[.int .i64 a0_1] (by rfl) rfl rfl (by (try simp only [List.map_toArray,List.map_cons,List.map_nil]);first|done|rfl|(simp only [List.length_drop,List.length_take];rfl)) ?_
                  with_reducible refine (strconv_Itoa.calls a0_1 t112 _ ?side1 A17.out).mono ?_
                  (case side1=>first|(with_reducible exact HG.out)|((with_reducible repeat (first|exact HG.out|apply GOK.drewN|apply GOK.drew));done)|exact GOK.below HG.out (by repeat (first|(with_reducible first|exact HB.out|apply below_alloc|apply pw_below_drewN|apply below_drew1|refine below_set ?_ GE108.out)|exact HB.out)))
                  rintro e w43 ⟨rfl,hb⟩
                  refine ⟨_,rfl,?_⟩
                  have n0_:=Aside0.mk (blk_below (g:=gb108) (o:=.cells #[.int .i64 a0_0,.int .i64 a0_1,.string a0_2,.string a0_3,.int .i64 a0_4,.string a0_5,.string a0_6,.slice A0_7 l0_7.length c0_7,.slice A0_8 l0_8.length c0_8] 30 (0,0)) (by (with_reducible repeat (first|refine blk_drewN ?_ _|refine blk_drew ?_|refine blk_alloc ?_ _));exact BK108.out) hb)
                  have n1_:=Aside0.mk (below_step (by repeat (first|(with_reducible first|exact HB.out|apply below_alloc|apply pw_below_drewN|apply below_drew1|refine below_set ?_ GE108.out)|exact HB.out)) hb)
                  clear BK108
                  clear HB
                  have BK108:=n0_
                  have HB:=n1_
                  clear n0_ n1_
                  (try clear hb)
                  (try clear hb2)
                  (try clear hk)
                  (try clear hi)
                  refine hK.out _ _ ⟨(blk_cell BK108.out 0).trans rfl,(blk_cell BK108.out 1).trans rfl,(blk_cell BK108.out 2).trans rfl,(blk_cell BK108.out 3).trans rfl,(blk_cell BK108.out 4).trans rfl,(blk_cell BK108.out 5).trans rfl,(blk_cell BK108.out 6).trans rfl,(blk_cell BK108.out 7).trans rfl,(blk_cell BK108.out 8).trans rfl⟩ (fun hHeld=>?_)
                  clear hK K
                  refine norm_ (a':=?_) ?_ ?_
                  rotate_left
                  · show Act.put _ (some 23) _=_
                    simp only [Act.put,List.setIfInBounds_toArray,List.set_cons_zero,List.set_cons_succ,i64_w,i32_w]
                    rfl
                  refine pure_ (i:=3) (N:=some 24) (v:=?_) (a':=?_) #[true,true,true,true,true,true,false,false,false] rfl rfl (any_of HT_.out (by kernel_rfl)) (fun _ _ _ h=>h) (Or.inl ⟨by rfl,?_⟩) ?_ ?_
                  rotate_left
                  · intro w'
                    go_simp
                    with_reducible rfl
                  rotate_left
                  · simp only [Act.put,List.setIfInBounds_toArray,List.set_cons_zero,List.set_cons_succ,i64_w,i32_w]
                    rfl
                  refine one_ (i:=6) (N:=some 27) #[true,true,true,true,true,true,true,false,false] rfl rfl (one_of HT_.out (by kernel_rfl)) (by decide) (fun K hK=>?_)
                  refine goes_ Tryz.func24 (by kernel_rfl) rfl #[.agg #[.string a0_2,.string a0_3]] (by rfl) rfl rfl (by (try simp only [List.map_toArray,List.map_cons,List.map_nil]);first|done|rfl|(simp only [List.length_drop,List.length_take];rfl)) ?_
                  with_reducible refine (impl_Addr_text.calls a0_2 a0_3 t113 _ A19.out).mono ?_
                  rintro e w44 ⟨rfl,hb⟩
                  refine ⟨_,rfl,?_⟩
                  have n0_:=Aside0.mk (blk_below (g:=gb108) (o:=.cells #[.int .i64 a0_0,.int .i64 a0_1,.string a0_2,.string a0_3,.int .i64 a0_4,.string a0_5,.string a0_6,.slice A0_7 l0_7.length c0_7,.slice A0_8 l0_8.length c0_8] 30 (0,0)) (by (with_reducible repeat (first|refine blk_drewN ?_ _|refine blk_drew ?_|refine blk_alloc ?_ _));exact BK108.out) hb)
                  have n1_:=Aside0.mk (below_step (by repeat (first|(with_reducible first|exact HB.out|apply below_alloc|apply pw_below_drewN|apply below_drew1|refine below_set ?_ GE108.out)|exact HB.out)) hb)
                  clear BK108
                  clear HB
                  have BK108:=n0_
                  have HB:=n1_
                  clear n0_ n1_
                  (try clear hb)
                  (try clear hb2)
                  (try clear hk)
                  (try clear hi)
                  refine hK.out _ _ ⟨(blk_cell BK108.out 0).trans rfl,(blk_cell BK108.out 1).trans rfl,(blk_cell BK108.out 2).trans rfl,(blk_cell BK108.out 3).trans rfl,(blk_cell BK108.out 4).trans rfl,(blk_cell BK108.out 5).trans rfl,(blk_cell BK108.out 6).trans rfl,(blk_cell BK108.out 7).trans rfl,(blk_cell BK108.out 8).trans rfl⟩ (fun hHeld=>?_)
                  clear hK K
                  refine norm_ (a':=?_) ?_ ?_
                  rotate_left
                  · show Act.put _ (some 27) _=_
                    simp only [Act.put,List.setIfInBounds_toArray,List.set_cons_zero,List.set_cons_succ,i64_w,i32_w]
                    rfl
                  refine pure_ (i:=7) (N:=some 28) (v:=?_) (a':=?_) #[true,true,true,true,true,true,true,true,false] rfl rfl (any_of HT_.out (by kernel_rfl)) (fun _ _ _ h=>h) (Or.inl ⟨by rfl,?_⟩) ?_ ?_
                  rotate_left
                  · intro w'
                    go_simp
                    with_reducible rfl
                  rotate_left
                  · simp only [Act.put,List.setIfInBounds_toArray,List.set_cons_zero,List.set_cons_succ,i64_w,i32_w]
                    rfl
                  refine pure_ (i:=8) (N:=some 4) (v:=?_) (a':=?_) #[true,true,true,true,true,true,true,true,true] rfl rfl (any_of HT_.out (by kernel_rfl)) (fun _ _ _ h=>h) (Or.inl ⟨by rfl,?_⟩) ?_ ?_
                  rotate_left
                  · intro w'
                    go_simp
                    with_reducible rfl
                  rotate_left
                  · simp only [Act.put,List.setIfInBounds_toArray,List.set_cons_zero,List.set_cons_succ,i64_w,i32_w]
                    rfl
                  refine done_ (done_of HT_.out (by kernel_rfl)) ?_
                  have hcz45_0:w44.cell? ⟨gb108,0,none⟩=some (.int .i64 a0_0):=(blk_cell BK108.out 0).trans rfl
                  have hcz45_1:w44.cell? ⟨gb108,1,none⟩=some (.int .i64 a0_1):=(blk_cell BK108.out 1).trans rfl
                  have hcz45_2:w44.cell? ⟨gb108,2,none⟩=some (.string a0_2):=(blk_cell BK108.out 2).trans rfl
                  have hcz45_3:w44.cell? ⟨gb108,3,none⟩=some (.string a0_3):=(blk_cell BK108.out 3).trans rfl
                  have hcz45_4:w44.cell? ⟨gb108,4,none⟩=some (.int .i64 a0_4):=(blk_cell BK108.out 4).trans rfl
                  have hcz45_5:w44.cell? ⟨gb108,5,none⟩=some (.string a0_5):=(blk_cell BK108.out 5).trans rfl
                  have hcz45_6:w44.cell? ⟨gb108,6,none⟩=some (.string a0_6):=(blk_cell BK108.out 6).trans rfl
                  have hcz45_7:w44.cell? ⟨gb108,7,none⟩=some (.slice A0_7 l0_7.length c0_7):=(blk_cell BK108.out 7).trans rfl
                  have hcz45_8:w44.cell? ⟨gb108,8,none⟩=some (.slice A0_8 l0_8.length c0_8):=(blk_cell BK108.out 8).trans rfl
                  have hfz45_0:=blk_frozen BK108.out 0
                  have hfz45_1:=blk_frozen BK108.out 1
                  have hfz45_2:=blk_frozen BK108.out 2
                  have hfz45_3:=blk_frozen BK108.out 3
                  have hfz45_4:=blk_frozen BK108.out 4
                  have hfz45_5:=blk_frozen BK108.out 5
                  have hfz45_6:=blk_frozen BK108.out 6
                  have hfz45_7:=blk_frozen BK108.out 7
                  have hfz45_8:=blk_frozen BK108.out 8
                  try go_wp2
                  go_ret
                  exact ⟨by first|rfl|(simp [errW_none,errW_some]<;>rfl)|(simp [*,errW_none,errW_some]<;>rfl),by repeat (first|(with_reducible first|exact HB.out|apply below_alloc|apply pw_below_drewN|apply below_drew1|refine below_set ?_ GE108.out)|exact HB.out)⟩
                · rw [if_neg c35] at H
                  exact absurd H (by simp)
              · rw [if_neg c34] at H
                exact absurd H (by simp)
            · rw [if_neg c33] at H
              exact absurd H (by simp)
        · rw [if_neg c20] at H
          exact absurd H (by simp)
      · rw [if_neg c18] at H
        exact absurd H (by simp)
  · replace c3:=Bool.eq_false_iff.mpr c3
    subst c3
    have H1:(some (⟨#[]⟩:ByteArray))=some r:=by rw [if_neg (show ¬ (false=true) by decide)] at H;exact H
    clear H
    have H:=H1
    clear H1
    obtain rfl:=Option.some.inj H
    go_enter Tryz.func8,Tryz.ntmps8
    go_wp2_with (first|((with_reducible refine gate_dst (N:=1) rfl ?_);refine box_event ?hg (N:=1) ?hd (cs:=#[.int .i64 a0_0,.int .i64 a0_1,.string a0_2,.string a0_3,.int .i64 a0_4,.string a0_5,.string a0_6,.slice A0_7 l0_7.length c0_7,.slice A0_8 l0_8.length c0_8]) (t:=30) ?hr ?_;(case hd=>rfl);(case hg=>rfl);(case hr=>first|(go_simp;done)|(go_simp;rfl));intro gb108 hg w46 hbox hb;have n0_:=Aside0.mk (below_step (by repeat (first|(with_reducible first|exact HB.out|apply below_alloc|apply pw_below_drewN|apply below_drew1)|exact HB.out)) hb);have n1_:=Aside0.mk (hbox);have n2_:=Aside0.mk ((by rw [hg];exact (below_size (by repeat (first|(with_reducible first|exact HB.out|apply below_alloc|apply pw_below_drewN|apply below_drew1)|exact HB.out))):w.heap.size≤gb108));have n3_:=Aside0.mk ((by rw [hg];exact (below_size (by repeat (first|(with_reducible first|exact HB.out|apply below_alloc|apply pw_below_drewN|apply below_drew1)|exact HB.out))):w.heap.size≤gb108));clear HB;have HB:=n0_;have BK108:=n1_;have GW108:=n2_;have GE108:=n3_;clear n0_ n1_ n2_ n3_;clear hb hbox hg;have hcz47_0:w46.cell? ⟨gb108,0,none⟩=some (.int .i64 a0_0):=(blk_cell BK108.out 0).trans rfl;have hcz47_1:w46.cell? ⟨gb108,1,none⟩=some (.int .i64 a0_1):=(blk_cell BK108.out 1).trans rfl;have hcz47_2:w46.cell? ⟨gb108,2,none⟩=some (.string a0_2):=(blk_cell BK108.out 2).trans rfl;have hcz47_3:w46.cell? ⟨gb108,3,none⟩=some (.string a0_3):=(blk_cell BK108.out 3).trans rfl;have hcz47_4:w46.cell? ⟨gb108,4,none⟩=some (.int .i64 a0_4):=(blk_cell BK108.out 4).trans rfl;have hcz47_5:w46.cell? ⟨gb108,5,none⟩=some (.string a0_5):=(blk_cell BK108.out 5).trans rfl;have hcz47_6:w46.cell? ⟨gb108,6,none⟩=some (.string a0_6):=(blk_cell BK108.out 6).trans rfl;have hcz47_7:w46.cell? ⟨gb108,7,none⟩=some (.slice A0_7 l0_7.length c0_7):=(blk_cell BK108.out 7).trans rfl;have hcz47_8:w46.cell? ⟨gb108,8,none⟩=some (.slice A0_8 l0_8.length c0_8):=(blk_cell BK108.out 8).trans rfl;have hfz47_0:=blk_frozen BK108.out 0;have hfz47_1:=blk_frozen BK108.out 1;have hfz47_2:=blk_frozen BK108.out 2;have hfz47_3:=blk_frozen BK108.out 3;have hfz47_4:=blk_frozen BK108.out 4;have hfz47_5:=blk_frozen BK108.out 5;have hfz47_6:=blk_frozen BK108.out 6;have hfz47_7:=blk_frozen BK108.out 7;have hfz47_8:=blk_frozen BK108.out 8)|((with_reducible refine gate_callee (f:=10) rfl ?_);refine goesL_ (some 6) rfl rfl Tryz.func10 (by kernel_rfl) rfl #[.agg #[.int .i64 a0_0,.int .i64 a0_1,.string a0_2,.string a0_3,.int .i64 a0_4,.string a0_5,.string a0_6,.slice A0_7 l0_7.length c0_7,.slice A0_8 l0_8.length c0_8]] rfl (by (try simp only [List.map_toArray,List.map_cons,List.map_nil]);first|done|rfl|(simp only [List.length_drop,List.length_take];rfl)) ?_;(with_reducible refine (impl_NoteOk.calls k a0_0 a0_1 a0_2 a0_3 a0_4 a0_5 a0_6 _ _ l0_7 _ _ l0_8 false _ ?side1 ?side2 ?side3 ?side4 ?side5 A2.out).mono ?_);(case side1=>repeat (first|exact (Kd.C_below HR0_7.out HB.out)|(with_reducible refine Kd.C_alloc ?_ _)|(with_reducible refine Kd.C_drewN ?_ _)|(with_reducible refine Kd.C_drew ?_)));(case side2=>exact HC0_7.out);(case side3=>repeat (first|exact (Kd.C_below HR0_8.out HB.out)|(with_reducible refine Kd.C_alloc ?_ _)|(with_reducible refine Kd.C_drewN ?_ _)|(with_reducible refine Kd.C_drew ?_)));(case side4=>exact HC0_8.out);(case side5=>first|(with_reducible exact HG.out)|((with_reducible repeat (first|exact HG.out|apply GOK.drewN|apply GOK.drew));done)|exact GOK.below HG.out (by repeat (first|(with_reducible first|exact HB.out|apply below_alloc|apply pw_below_drewN|apply below_drew1|refine below_set ?_ GE108.out)|exact HB.out)));rintro e w48 ⟨rfl,hb⟩;refine ⟨_,rfl,?_⟩;have n0_:=Aside0.mk (blk_below (g:=gb108) (o:=.cells #[.int .i64 a0_0,.int .i64 a0_1,.string a0_2,.string a0_3,.int .i64 a0_4,.string a0_5,.string a0_6,.slice A0_7 l0_7.length c0_7,.slice A0_8 l0_8.length c0_8] 30 (0,0)) (by (with_reducible repeat (first|refine blk_drewN ?_ _|refine blk_drew ?_|refine blk_alloc ?_ _));exact BK108.out) hb);have n1_:=Aside0.mk (below_step (by repeat (first|(with_reducible first|exact HB.out|apply below_alloc|apply pw_below_drewN|apply below_drew1|refine below_set ?_ GE108.out)|exact HB.out)) hb);clear BK108;clear HB;have BK108:=n0_;have HB:=n1_;clear n0_ n1_;(try clear hb);(try clear hb2);(try clear hk);(try clear hi)))
    go_ret
    exact ⟨by first|rfl|(simp [errW_none,errW_some]<;>rfl)|(simp [*,errW_none,errW_some]<;>rfl),by repeat (first|(with_reducible first|exact HB.out|apply below_alloc|apply pw_below_drewN|apply below_drew1|refine below_set ?_ GE108.out)|exact HB.out)⟩
end Go.Proofs.YtjdpdkdhfnpcgaaGreatDoor.Q
