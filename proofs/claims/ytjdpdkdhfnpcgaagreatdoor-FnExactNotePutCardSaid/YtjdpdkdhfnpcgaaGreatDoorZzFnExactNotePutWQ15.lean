/- Of a text of ours what this claim needs. -/
import Derived.Test.YtjdpdkdhfnpcgaaGreatDoorZzFnExactNotePutWQ0
import Derived.Test.YtjdpdkdhfnpcgaaGreatDoorZzFnExactNotePutWQ11
import Derived.Test.YtjdpdkdhfnpcgaaGreatDoorZzFnExactNotePutWQ13
import Derived.Test.YtjdpdkdhfnpcgaaGreatDoorZzFnExactNotePutWHDot
import Derived.Test.YtjdpdkdhfnpcgaaGreatDoorZzFnExactNotePutWHSplit
namespace Go.Proofs.YtjdpdkdhfnpcgaaGreatDoor.Q
open Go.RowKit Go.Proofs.YtjdpdkdhfnpcgaaGreatDoorW.PrintWords Go.Proofs.YtjdpdkdhfnpcgaaGreatDoorW.PrintLast Go.Proofs.YtjdpdkdhfnpcgaaGreatDoorW.PrintMore
attribute [local go_sem] max2_int min2_int max_two min_two max_three min_three max_four min_four
set_option linter.unusedVariables false
set_option linter.unusedSimpArgs false
def impl_Addr_text.f (a0_0:ByteArray) (a0_1:ByteArray):Option (ByteArray):=(impl_Addr_null.f a0_0 a0_1).bind fun t102=>(if t102=true then (some (⟨#[60,62]⟩:ByteArray)) else (if 1+a0_0.size≤9223372036854775807 then (if ((⟨#[60]⟩:ByteArray)++a0_0).size+1≤9223372036854775807 then (if (((⟨#[60]⟩:ByteArray)++a0_0)++(⟨#[64]⟩:ByteArray)).size+a0_1.size≤9223372036854775807 then (if ((((⟨#[60]⟩:ByteArray)++a0_0)++(⟨#[64]⟩:ByteArray))++a0_1).size+1≤9223372036854775807 then (some (((((⟨#[60]⟩:ByteArray)++a0_0)++(⟨#[64]⟩:ByteArray))++a0_1)++(⟨#[62]⟩:ByteArray))) else (none)) else (none)) else (none)) else (none)))
set_option maxHeartbeats 8000000 in
set_option maxRecDepth 100000 in
theorem impl_Addr_text.calls (a0_0:ByteArray) (a0_1:ByteArray) (r:ByteArray) (w:World) (h:impl_Addr_text.f a0_0 a0_1=some r) :
    Calls Tryz.prog 24 #[.agg #[.string a0_0,.string a0_1]] w fun e w'=>e=.returned (.string r)∧Below w.heap.size w w':=by
  have hu24:=Tryz.underlying24
  have HB:=Aside0.mk (Below.refl w.heap.size w)
  have H:((impl_Addr_null.f a0_0 a0_1).bind fun t102=>(if t102=true then (some (⟨#[60,62]⟩:ByteArray)) else (if 1+a0_0.size≤9223372036854775807 then (if ((⟨#[60]⟩:ByteArray)++a0_0).size+1≤9223372036854775807 then (if (((⟨#[60]⟩:ByteArray)++a0_0)++(⟨#[64]⟩:ByteArray)).size+a0_1.size≤9223372036854775807 then (if ((((⟨#[60]⟩:ByteArray)++a0_0)++(⟨#[64]⟩:ByteArray))++a0_1).size+1≤9223372036854775807 then (some (((((⟨#[60]⟩:ByteArray)++a0_0)++(⟨#[64]⟩:ByteArray))++a0_1)++(⟨#[62]⟩:ByteArray))) else (none)) else (none)) else (none)) else (none))))=some r:=h
  clear h
  replace H:=Option.bind_eq_some_iff.mp H
  obtain ⟨t102,A20,H⟩:=H
  replace H:(if t102=true then (some (⟨#[60,62]⟩:ByteArray)) else (if 1+a0_0.size≤9223372036854775807 then (if ((⟨#[60]⟩:ByteArray)++a0_0).size+1≤9223372036854775807 then (if (((⟨#[60]⟩:ByteArray)++a0_0)++(⟨#[64]⟩:ByteArray)).size+a0_1.size≤9223372036854775807 then (if ((((⟨#[60]⟩:ByteArray)++a0_0)++(⟨#[64]⟩:ByteArray))++a0_1).size+1≤9223372036854775807 then (some (((((⟨#[60]⟩:ByteArray)++a0_0)++(⟨#[64]⟩:ByteArray))++a0_1)++(⟨#[62]⟩:ByteArray))) else (none)) else (none)) else (none)) else (none)))=some r:=H
  have A2:=Aside0.mk A20
  clear A20
  by_cases c3:t102=true
  · subst c3
    have H1:(some (⟨#[60,62]⟩:ByteArray))=some r:=by rw [if_pos rfl] at H;exact H
    clear H
    have H:=H1
    clear H1
    obtain rfl:=Option.some.inj H
    go_enter Tryz.func24,Tryz.ntmps24
    go_wp2_with (first|((with_reducible refine gate_dst (N:=1) rfl ?_);refine box_event ?hg (N:=1) ?hd (cs:=#[.string a0_0,.string a0_1]) (t:=24) ?hr ?_;(case hd=>rfl);(case hg=>rfl);(case hr=>first|(go_simp;done)|(go_simp;rfl));intro gb101 hg w4 hbox hb;have n0_:=Aside0.mk (below_step (by repeat (first|(with_reducible first|exact HB.out|apply below_alloc|apply pw_below_drewN|apply below_drew1)|exact HB.out)) hb);have n1_:=Aside0.mk (hbox);have n2_:=Aside0.mk ((by rw [hg];exact (below_size (by repeat (first|(with_reducible first|exact HB.out|apply below_alloc|apply pw_below_drewN|apply below_drew1)|exact HB.out))):w.heap.size≤gb101));have n3_:=Aside0.mk ((by rw [hg];exact (below_size (by repeat (first|(with_reducible first|exact HB.out|apply below_alloc|apply pw_below_drewN|apply below_drew1)|exact HB.out))):w.heap.size≤gb101));clear HB;have HB:=n0_;have BK101:=n1_;have GW101:=n2_;have GE101:=n3_;clear n0_ n1_ n2_ n3_;clear hb hbox hg;have hcz5_0:w4.cell? ⟨gb101,0,none⟩=some (.string a0_0):=(blk_cell BK101.out 0).trans rfl;have hcz5_1:w4.cell? ⟨gb101,1,none⟩=some (.string a0_1):=(blk_cell BK101.out 1).trans rfl;have hfz5_0:=blk_frozen BK101.out 0;have hfz5_1:=blk_frozen BK101.out 1)|((with_reducible refine gate_callee (f:=32) rfl ?_);refine goesL_ (some 4) rfl rfl Tryz.func32 (by kernel_rfl) rfl #[.agg #[.string a0_0,.string a0_1]] rfl (by (try simp only [List.map_toArray,List.map_cons,List.map_nil]);first|done|rfl|(simp only [List.length_drop,List.length_take];rfl)) ?_;(with_reducible refine (impl_Addr_null.calls a0_0 a0_1 true _ A2.out).mono ?_);rintro e w6 ⟨rfl,hb⟩;refine ⟨_,rfl,?_⟩;have n0_:=Aside0.mk (blk_below (g:=gb101) (o:=.cells #[.string a0_0,.string a0_1] 24 (0,0)) (by (with_reducible repeat (first|refine blk_drewN ?_ _|refine blk_drew ?_|refine blk_alloc ?_ _));exact BK101.out) hb);have n1_:=Aside0.mk (below_step (by repeat (first|(with_reducible first|exact HB.out|apply below_alloc|apply pw_below_drewN|apply below_drew1|refine below_set ?_ GE101.out)|exact HB.out)) hb);clear BK101;clear HB;have BK101:=n0_;have HB:=n1_;clear n0_ n1_;(try clear hb);(try clear hb2);(try clear hk);(try clear hi)))
    go_ret
    exact ⟨by first|rfl|(simp [errW_none,errW_some]<;>rfl)|(simp [*,errW_none,errW_some]<;>rfl),by repeat (first|(with_reducible first|exact HB.out|apply below_alloc|apply pw_below_drewN|apply below_drew1|refine below_set ?_ GE101.out)|exact HB.out)⟩
  · replace c3:=Bool.eq_false_iff.mpr c3
    subst c3
    have H1:(if 1+a0_0.size≤9223372036854775807 then (if ((⟨#[60]⟩:ByteArray)++a0_0).size+1≤9223372036854775807 then (if (((⟨#[60]⟩:ByteArray)++a0_0)++(⟨#[64]⟩:ByteArray)).size+a0_1.size≤9223372036854775807 then (if ((((⟨#[60]⟩:ByteArray)++a0_0)++(⟨#[64]⟩:ByteArray))++a0_1).size+1≤9223372036854775807 then (some (((((⟨#[60]⟩:ByteArray)++a0_0)++(⟨#[64]⟩:ByteArray))++a0_1)++(⟨#[62]⟩:ByteArray))) else (none)) else (none)) else (none)) else (none))=some r:=by rw [if_neg (show ¬ (false=true) by decide)] at H;exact H
    clear H
    have H:=H1
    clear H1
    by_cases c7:1+a0_0.size≤9223372036854775807
    · rw [if_pos c7] at H
      have c7b0:=eq_true c7
      have c7b1:decide (1+a0_0.size≤9223372036854775807)=true:=decide_eq_true c7
      try have c7b2:(9223372036854775807 < 1+a0_0.size)=False:=eq_false (Nat.not_lt.2 c7)
      by_cases c8:((⟨#[60]⟩:ByteArray)++a0_0).size+1≤9223372036854775807
      · rw [if_pos c8] at H
        have c8b0:=eq_true c8
        have c8b1:decide (((⟨#[60]⟩:ByteArray)++a0_0).size+1≤9223372036854775807)=true:=decide_eq_true c8
        try have c8b2:(9223372036854775807 < ((⟨#[60]⟩:ByteArray)++a0_0).size+1)=False:=eq_false (Nat.not_lt.2 c8)
        try have c8b3:=c8
        try simp only [ByteArray.size_append',sz1,sz2,sz3,sz4,sz5,sz6,sz7,sz8] at c8b3
        try have c8b4:=eq_true c8b3
        try have c8b5:=eq_false (Nat.not_lt.2 c8b3)
        by_cases c9:(((⟨#[60]⟩:ByteArray)++a0_0)++(⟨#[64]⟩:ByteArray)).size+a0_1.size≤9223372036854775807
        · rw [if_pos c9] at H
          have c9b0:=eq_true c9
          have c9b1:decide ((((⟨#[60]⟩:ByteArray)++a0_0)++(⟨#[64]⟩:ByteArray)).size+a0_1.size≤9223372036854775807)=true:=decide_eq_true c9
          try have c9b2:(9223372036854775807 < (((⟨#[60]⟩:ByteArray)++a0_0)++(⟨#[64]⟩:ByteArray)).size+a0_1.size)=False:=eq_false (Nat.not_lt.2 c9)
          try have c9b3:=c9
          try simp only [ByteArray.size_append',sz1,sz2,sz3,sz4,sz5,sz6,sz7,sz8] at c9b3
          try have c9b4:=eq_true c9b3
          try have c9b5:=eq_false (Nat.not_lt.2 c9b3)
          by_cases c10:((((⟨#[60]⟩:ByteArray)++a0_0)++(⟨#[64]⟩:ByteArray))++a0_1).size+1≤9223372036854775807
          · rw [if_pos c10] at H
            have c10b0:=eq_true c10
            have c10b1:decide (((((⟨#[60]⟩:ByteArray)++a0_0)++(⟨#[64]⟩:ByteArray))++a0_1).size+1≤9223372036854775807)=true:=decide_eq_true c10
            try have c10b2:(9223372036854775807 < ((((⟨#[60]⟩:ByteArray)++a0_0)++(⟨#[64]⟩:ByteArray))++a0_1).size+1)=False:=eq_false (Nat.not_lt.2 c10)
            try have c10b3:=c10
            try simp only [ByteArray.size_append',sz1,sz2,sz3,sz4,sz5,sz6,sz7,sz8] at c10b3
            try have c10b4:=eq_true c10b3
            try have c10b5:=eq_false (Nat.not_lt.2 c10b3)
            obtain rfl:=Option.some.inj H
            go_enter Tryz.func24,Tryz.ntmps24
            go_wp2_with (first|((with_reducible refine gate_dst (N:=1) rfl ?_);refine box_event ?hg (N:=1) ?hd (cs:=#[.string a0_0,.string a0_1]) (t:=24) ?hr ?_;(case hd=>rfl);(case hg=>rfl);(case hr=>first|(go_simp;done)|(go_simp;rfl));intro gb101 hg w11 hbox hb;have n0_:=Aside0.mk (below_step (by repeat (first|(with_reducible first|exact HB.out|apply below_alloc|apply pw_below_drewN|apply below_drew1)|exact HB.out)) hb);have n1_:=Aside0.mk (hbox);have n2_:=Aside0.mk ((by rw [hg];exact (below_size (by repeat (first|(with_reducible first|exact HB.out|apply below_alloc|apply pw_below_drewN|apply below_drew1)|exact HB.out))):w.heap.size≤gb101));have n3_:=Aside0.mk ((by rw [hg];exact (below_size (by repeat (first|(with_reducible first|exact HB.out|apply below_alloc|apply pw_below_drewN|apply below_drew1)|exact HB.out))):w.heap.size≤gb101));clear HB;have HB:=n0_;have BK101:=n1_;have GW101:=n2_;have GE101:=n3_;clear n0_ n1_ n2_ n3_;clear hb hbox hg;have hcz12_0:w11.cell? ⟨gb101,0,none⟩=some (.string a0_0):=(blk_cell BK101.out 0).trans rfl;have hcz12_1:w11.cell? ⟨gb101,1,none⟩=some (.string a0_1):=(blk_cell BK101.out 1).trans rfl;have hfz12_0:=blk_frozen BK101.out 0;have hfz12_1:=blk_frozen BK101.out 1)|((with_reducible refine gate_callee (f:=32) rfl ?_);refine goesL_ (some 4) rfl rfl Tryz.func32 (by kernel_rfl) rfl #[.agg #[.string a0_0,.string a0_1]] rfl (by (try simp only [List.map_toArray,List.map_cons,List.map_nil]);first|done|rfl|(simp only [List.length_drop,List.length_take];rfl)) ?_;(with_reducible refine (impl_Addr_null.calls a0_0 a0_1 false _ A2.out).mono ?_);rintro e w13 ⟨rfl,hb⟩;refine ⟨_,rfl,?_⟩;have n0_:=Aside0.mk (blk_below (g:=gb101) (o:=.cells #[.string a0_0,.string a0_1] 24 (0,0)) (by (with_reducible repeat (first|refine blk_drewN ?_ _|refine blk_drew ?_|refine blk_alloc ?_ _));exact BK101.out) hb);have n1_:=Aside0.mk (below_step (by repeat (first|(with_reducible first|exact HB.out|apply below_alloc|apply pw_below_drewN|apply below_drew1|refine below_set ?_ GE101.out)|exact HB.out)) hb);clear BK101;clear HB;have BK101:=n0_;have HB:=n1_;clear n0_ n1_;(try clear hb);(try clear hb2);(try clear hk);(try clear hi);have hcz14_0:w13.cell? ⟨gb101,0,none⟩=some (.string a0_0):=(blk_cell BK101.out 0).trans rfl;have hcz14_1:w13.cell? ⟨gb101,1,none⟩=some (.string a0_1):=(blk_cell BK101.out 1).trans rfl;have hfz14_0:=blk_frozen BK101.out 0;have hfz14_1:=blk_frozen BK101.out 1))
            go_ret
            exact ⟨by first|rfl|(simp [errW_none,errW_some]<;>rfl)|(simp [*,errW_none,errW_some]<;>rfl),by repeat (first|(with_reducible first|exact HB.out|apply below_alloc|apply pw_below_drewN|apply below_drew1|refine below_set ?_ GE101.out)|exact HB.out)⟩
          · rw [if_neg c10] at H
            exact absurd H (by simp)
        · rw [if_neg c9] at H
          exact absurd H (by simp)
      · rw [if_neg c8] at H
        exact absurd H (by simp)
    · rw [if_neg c7] at H
      exact absurd H (by simp)
def impl_MailPut.l0:Nat→ByteArray→List (S24)→Int→Int→ByteArray→ByteArray→List (S24)→List ByteArray→Option (ByteArray)
  | 0,_,_,_,_,_,_,_,_=>none
  | k+1,x3,x15,x16,x17,x102000,x102001,x102002,x102003=>if x17 < x16 then (if 0≤x17 then (if x17 < (x15.length:Int) then ((impl_Addr_text.f ((rd_T24 x15 x17).f0) ((rd_T24 x15 x17).f1)).bind fun t106=>(if 3+t106.size≤9223372036854775807 then (if ((⟨#[116,111,32]⟩:ByteArray)++t106).size+2≤9223372036854775807 then (if x3.size+(((⟨#[116,111,32]⟩:ByteArray)++t106)++(⟨#[13,10]⟩:ByteArray)).size≤9223372036854775807 then (impl_MailPut.l0 k (x3++(((⟨#[116,111,32]⟩:ByteArray)++t106)++(⟨#[13,10]⟩:ByteArray))) x15 x16 (wrap64 (x17+1)) x102000 x102001 x102002 x102003) else (none)) else (none)) else (none))) else (none)) else (none)) else (if x3.size+2≤9223372036854775807 then ((impl_dotted.f x102003).bind fun t107=>(if (x3++(⟨#[13,10]⟩:ByteArray)).size+t107.size≤9223372036854775807 then (some ((x3++(⟨#[13,10]⟩:ByteArray))++t107)) else (none))) else (none))
def impl_MailPut.f (k:Nat) (a0_0:ByteArray) (a0_1:ByteArray) (l0_2:List (S24)) (l0_3:List ByteArray):Option (ByteArray):=(impl_MailOk.f k a0_0 a0_1 l0_2 l0_3).bind fun t102=>(if t102=true then ((impl_Addr_text.f a0_0 a0_1).bind fun t103=>(if 5+t103.size≤9223372036854775807 then (if ((⟨#[102,114,111,109,32]⟩:ByteArray)++t103).size+2≤9223372036854775807 then (impl_MailPut.l0 k (((⟨#[102,114,111,109,32]⟩:ByteArray)++t103)++(⟨#[13,10]⟩:ByteArray)) l0_2 (l0_2.length:Int) 0 a0_0 a0_1 l0_2 l0_3) else (none)) else (none))) else (some (⟨#[]⟩:ByteArray)))
set_option maxHeartbeats 8000000 in
set_option maxRecDepth 100000 in
theorem impl_MailPut.calls (k:Nat) (a0_0:ByteArray) (a0_1:ByteArray) (A0_2:Option Addr) (c0_2:Nat) (l0_2:List (S24)) (A0_3:Option Addr) (c0_3:Nat) (l0_3:List ByteArray) (r:ByteArray) (w:World) (hr0_2:Kd.C k24 w A0_2 l0_2.length l0_2) (hc0_2:l0_2.length≤c0_2) (hr0_3:Kd.C Kd.string w A0_3 l0_3.length l0_3) (hc0_3:l0_3.length≤c0_3) (hG:GOK w) (h:impl_MailPut.f k a0_0 a0_1 l0_2 l0_3=some r) :
    Calls Tryz.prog 23 #[.agg #[.string a0_0,.string a0_1,.slice A0_2 l0_2.length c0_2,.slice A0_3 l0_3.length c0_3]] w fun e w'=>e=.returned (.string r)∧Below w.heap.size w w':=by
  have hu28:=Tryz.underlying28
  have hu24:=Tryz.underlying24
  have HR0_2:=Aside0.mk hr0_2
  have HC0_2:=Aside0.mk hc0_2
  clear hr0_2 hc0_2
  have HR0_3:=Aside0.mk hr0_3
  have HC0_3:=Aside0.mk hc0_3
  clear hr0_3 hc0_3
  have HG:=Aside0.mk hG
  clear hG
  have HB:=Aside0.mk (Below.refl w.heap.size w)
  have H:((impl_MailOk.f k a0_0 a0_1 l0_2 l0_3).bind fun t102=>(if t102=true then ((impl_Addr_text.f a0_0 a0_1).bind fun t103=>(if 5+t103.size≤9223372036854775807 then (if ((⟨#[102,114,111,109,32]⟩:ByteArray)++t103).size+2≤9223372036854775807 then (impl_MailPut.l0 k (((⟨#[102,114,111,109,32]⟩:ByteArray)++t103)++(⟨#[13,10]⟩:ByteArray)) l0_2 (l0_2.length:Int) 0 a0_0 a0_1 l0_2 l0_3) else (none)) else (none))) else (some (⟨#[]⟩:ByteArray))))=some r:=h
  clear h
  replace H:=Option.bind_eq_some_iff.mp H
  obtain ⟨t102,A20,H⟩:=H
  replace H:(if t102=true then ((impl_Addr_text.f a0_0 a0_1).bind fun t103=>(if 5+t103.size≤9223372036854775807 then (if ((⟨#[102,114,111,109,32]⟩:ByteArray)++t103).size+2≤9223372036854775807 then (impl_MailPut.l0 k (((⟨#[102,114,111,109,32]⟩:ByteArray)++t103)++(⟨#[13,10]⟩:ByteArray)) l0_2 (l0_2.length:Int) 0 a0_0 a0_1 l0_2 l0_3) else (none)) else (none))) else (some (⟨#[]⟩:ByteArray)))=some r:=H
  have A2:=Aside0.mk A20
  clear A20
  by_cases c3:t102=true
  · subst c3
    have H1:((impl_Addr_text.f a0_0 a0_1).bind fun t103=>(if 5+t103.size≤9223372036854775807 then (if ((⟨#[102,114,111,109,32]⟩:ByteArray)++t103).size+2≤9223372036854775807 then (impl_MailPut.l0 k (((⟨#[102,114,111,109,32]⟩:ByteArray)++t103)++(⟨#[13,10]⟩:ByteArray)) l0_2 (l0_2.length:Int) 0 a0_0 a0_1 l0_2 l0_3) else (none)) else (none)))=some r:=by rw [if_pos rfl] at H;exact H
    clear H
    have H:=H1
    clear H1
    replace H:=Option.bind_eq_some_iff.mp H
    obtain ⟨t103,A40,H⟩:=H
    replace H:(if 5+t103.size≤9223372036854775807 then (if ((⟨#[102,114,111,109,32]⟩:ByteArray)++t103).size+2≤9223372036854775807 then (impl_MailPut.l0 k (((⟨#[102,114,111,109,32]⟩:ByteArray)++t103)++(⟨#[13,10]⟩:ByteArray)) l0_2 (l0_2.length:Int) 0 a0_0 a0_1 l0_2 l0_3) else (none)) else (none))=some r:=H
    have A4:=Aside0.mk A40
    clear A40
    by_cases c5:5+t103.size≤9223372036854775807
    · rw [if_pos c5] at H
      have c5b0:=eq_true c5
      have c5b1:decide (5+t103.size≤9223372036854775807)=true:=decide_eq_true c5
      try have c5b2:(9223372036854775807 < 5+t103.size)=False:=eq_false (Nat.not_lt.2 c5)
      by_cases c6:((⟨#[102,114,111,109,32]⟩:ByteArray)++t103).size+2≤9223372036854775807
      · rw [if_pos c6] at H
        have c6b0:=eq_true c6
        have c6b1:decide (((⟨#[102,114,111,109,32]⟩:ByteArray)++t103).size+2≤9223372036854775807)=true:=decide_eq_true c6
        try have c6b2:(9223372036854775807 < ((⟨#[102,114,111,109,32]⟩:ByteArray)++t103).size+2)=False:=eq_false (Nat.not_lt.2 c6)
        try have c6b3:=c6
        try simp only [ByteArray.size_append',sz1,sz2,sz3,sz4,sz5,sz6,sz7,sz8] at c6b3
        try have c6b4:=eq_true c6b3
        try have c6b5:=eq_false (Nat.not_lt.2 c6b3)
        have H':=Aside0.mk H
        clear H
        go_enter Tryz.func23,Tryz.ntmps23
        go_wp2_with (first|((with_reducible refine gate_dst (N:=1) rfl ?_);refine box_event ?hg (N:=1) ?hd (cs:=#[.string a0_0,.string a0_1,.slice A0_2 l0_2.length c0_2,.slice A0_3 l0_3.length c0_3]) (t:=28) ?hr ?_;(case hd=>rfl);(case hg=>rfl);(case hr=>first|(go_simp;done)|(go_simp;rfl));intro gb101 hg w7 hbox hb;have n0_:=Aside0.mk (below_step (by repeat (first|(with_reducible first|exact HB.out|apply below_alloc|apply pw_below_drewN|apply below_drew1)|exact HB.out)) hb);have n1_:=Aside0.mk (hbox);have n2_:=Aside0.mk ((by rw [hg];exact (below_size (by repeat (first|(with_reducible first|exact HB.out|apply below_alloc|apply pw_below_drewN|apply below_drew1)|exact HB.out))):w.heap.size≤gb101));have n3_:=Aside0.mk ((by rw [hg];exact (below_size (by repeat (first|(with_reducible first|exact HB.out|apply below_alloc|apply pw_below_drewN|apply below_drew1)|exact HB.out))):w.heap.size≤gb101));clear HB;have HB:=n0_;have BK101:=n1_;have GW101:=n2_;have GE101:=n3_;clear n0_ n1_ n2_ n3_;clear hb hbox hg;have hcz8_0:w7.cell? ⟨gb101,0,none⟩=some (.string a0_0):=(blk_cell BK101.out 0).trans rfl;have hcz8_1:w7.cell? ⟨gb101,1,none⟩=some (.string a0_1):=(blk_cell BK101.out 1).trans rfl;have hcz8_2:w7.cell? ⟨gb101,2,none⟩=some (.slice A0_2 l0_2.length c0_2):=(blk_cell BK101.out 2).trans rfl;have hcz8_3:w7.cell? ⟨gb101,3,none⟩=some (.slice A0_3 l0_3.length c0_3):=(blk_cell BK101.out 3).trans rfl;have hfz8_0:=blk_frozen BK101.out 0;have hfz8_1:=blk_frozen BK101.out 1;have hfz8_2:=blk_frozen BK101.out 2;have hfz8_3:=blk_frozen BK101.out 3)|((with_reducible refine gate_callee (f:=30) rfl ?_);refine goesL_ (some 7) rfl rfl Tryz.func30 (by kernel_rfl) rfl #[.agg #[.string a0_0,.string a0_1,.slice A0_2 l0_2.length c0_2,.slice A0_3 l0_3.length c0_3]] rfl (by (try simp only [List.map_toArray,List.map_cons,List.map_nil]);first|done|rfl|(simp only [List.length_drop,List.length_take];rfl)) ?_;(with_reducible refine (impl_MailOk.calls k a0_0 a0_1 _ _ l0_2 _ _ l0_3 true _ ?side1 ?side2 ?side3 ?side4 ?side5 A2.out).mono ?_);(case side1=>repeat (first|exact (Kd.C_below HR0_2.out HB.out)|(with_reducible refine Kd.C_alloc ?_ _)|(with_reducible refine Kd.C_drewN ?_ _)|(with_reducible refine Kd.C_drew ?_)));(case side2=>exact HC0_2.out);(case side3=>repeat (first|exact (Kd.C_below HR0_3.out HB.out)|(with_reducible refine Kd.C_alloc ?_ _)|(with_reducible refine Kd.C_drewN ?_ _)|(with_reducible refine Kd.C_drew ?_)));(case side4=>exact HC0_3.out);(case side5=>first|(with_reducible exact HG.out)|((with_reducible repeat (first|exact HG.out|apply GOK.drewN|apply GOK.drew));done)|exact GOK.below HG.out (by repeat (first|(with_reducible first|exact HB.out|apply below_alloc|apply pw_below_drewN|apply below_drew1|refine below_set ?_ GE101.out)|exact HB.out)));rintro e w9 ⟨rfl,hb⟩;refine ⟨_,rfl,?_⟩;have n0_:=Aside0.mk (blk_below (g:=gb101) (o:=.cells #[.string a0_0,.string a0_1,.slice A0_2 l0_2.length c0_2,.slice A0_3 l0_3.length c0_3] 28 (0,0)) (by (with_reducible repeat (first|refine blk_drewN ?_ _|refine blk_drew ?_|refine blk_alloc ?_ _));exact BK101.out) hb);have n1_:=Aside0.mk (below_step (by repeat (first|(with_reducible first|exact HB.out|apply below_alloc|apply pw_below_drewN|apply below_drew1|refine below_set ?_ GE101.out)|exact HB.out)) hb);clear BK101;clear HB;have BK101:=n0_;have HB:=n1_;clear n0_ n1_;(try clear hb);(try clear hb2);(try clear hk);(try clear hi);have hcz10_0:w9.cell? ⟨gb101,0,none⟩=some (.string a0_0):=(blk_cell BK101.out 0).trans rfl;have hcz10_1:w9.cell? ⟨gb101,1,none⟩=some (.string a0_1):=(blk_cell BK101.out 1).trans rfl;have hcz10_2:w9.cell? ⟨gb101,2,none⟩=some (.slice A0_2 l0_2.length c0_2):=(blk_cell BK101.out 2).trans rfl;have hcz10_3:w9.cell? ⟨gb101,3,none⟩=some (.slice A0_3 l0_3.length c0_3):=(blk_cell BK101.out 3).trans rfl;have hfz10_0:=blk_frozen BK101.out 0;have hfz10_1:=blk_frozen BK101.out 1;have hfz10_2:=blk_frozen BK101.out 2;have hfz10_3:=blk_frozen BK101.out 3)|((with_reducible refine gate_callee (f:=24) rfl ?_);refine goesL_ (some 11) rfl rfl Tryz.func24 (by kernel_rfl) rfl #[.agg #[.string a0_0,.string a0_1]] rfl (by (try simp only [List.map_toArray,List.map_cons,List.map_nil]);first|done|rfl|(simp only [List.length_drop,List.length_take];rfl)) ?_;(with_reducible refine (impl_Addr_text.calls a0_0 a0_1 t103 _ A4.out).mono ?_);rintro e w11 ⟨rfl,hb⟩;refine ⟨_,rfl,?_⟩;have n0_:=Aside0.mk (blk_below (g:=gb101) (o:=.cells #[.string a0_0,.string a0_1,.slice A0_2 l0_2.length c0_2,.slice A0_3 l0_3.length c0_3] 28 (0,0)) (by (with_reducible repeat (first|refine blk_drewN ?_ _|refine blk_drew ?_|refine blk_alloc ?_ _));exact BK101.out) hb);have n1_:=Aside0.mk (below_step (by repeat (first|(with_reducible first|exact HB.out|apply below_alloc|apply pw_below_drewN|apply below_drew1|refine below_set ?_ GE101.out)|exact HB.out)) hb);clear BK101;clear HB;have BK101:=n0_;have HB:=n1_;clear n0_ n1_;(try clear hb);(try clear hb2);(try clear hk);(try clear hi);have hcz12_0:w11.cell? ⟨gb101,0,none⟩=some (.string a0_0):=(blk_cell BK101.out 0).trans rfl;have hcz12_1:w11.cell? ⟨gb101,1,none⟩=some (.string a0_1):=(blk_cell BK101.out 1).trans rfl;have hcz12_2:w11.cell? ⟨gb101,2,none⟩=some (.slice A0_2 l0_2.length c0_2):=(blk_cell BK101.out 2).trans rfl;have hcz12_3:w11.cell? ⟨gb101,3,none⟩=some (.slice A0_3 l0_3.length c0_3):=(blk_cell BK101.out 3).trans rfl;have hfz12_0:=blk_frozen BK101.out 0;have hfz12_1:=blk_frozen BK101.out 1;have hfz12_2:=blk_frozen BK101.out 2;have hfz12_3:=blk_frozen BK101.out 3))
        go_loopg [3,17] k (fun kq v3 v17 w'=>∃ (x3_1:ByteArray) (x17_1:Int),v3=.string x3_1∧v17=.int .i64 x17_1∧Aside0 (impl_MailPut.l0 kq x3_1 l0_2 (l0_2.length:Int) x17_1 a0_0 a0_1 l0_2 l0_3=some r)∧Aside0 (kq≤k)∧Aside0 (w'.heap[gb101]?=some (.cells #[.string a0_0,.string a0_1,(.slice A0_2 l0_2.length c0_2),(.slice A0_3 l0_3.length c0_3)] 28 (0,0)))∧Aside0 (Below w.heap.size w w'))
        case atStart=>exact ⟨(((⟨#[102,114,111,109,32]⟩:ByteArray)++t103)++(⟨#[13,10]⟩:ByteArray)),(0),(by first|rfl|(simp;done)|(simp [*];done)),(by first|rfl|(simp;done)|(simp [*];done)),H',⟨Nat.le_refl _⟩,⟨by (with_reducible repeat (first|refine blk_drewN ?_ _|refine blk_drew ?_|refine blk_alloc ?_ _));exact BK101.out⟩,⟨by repeat (first|(with_reducible first|exact HB.out|apply below_alloc|apply pw_below_drewN|apply below_drew1|refine below_set ?_ GE101.out)|exact HB.out)⟩⟩
        case round =>
          clear H'
          try clear c2
          try clear p2
          try clear c3
          try clear c5
          try clear c5b0
          try clear c5b1
          try clear c5b2
          try clear c6
          try clear c6b0
          try clear c6b1
          try clear c6b2
          try clear hcz10_0
          try clear hcz10_1
          try clear hcz10_2
          try clear hcz10_3
          try clear hcz12_0
          try clear hcz12_1
          try clear hcz12_2
          try clear hcz12_3
          try clear hcz8_0
          try clear hcz8_1
          try clear hcz8_2
          try clear hcz8_3
          try clear hfz10_0
          try clear hfz10_1
          try clear hfz10_2
          try clear hfz10_3
          try clear hfz12_0
          try clear hfz12_1
          try clear hfz12_2
          try clear hfz12_3
          try clear hfz8_0
          try clear hfz8_1
          try clear hfz8_2
          try clear hfz8_3
          obtain ⟨x3_1,x17_1,rfl,rfl,HA,HK1,BK101,HB⟩:=hrel
          cases gk with
          | zero=>exact absurd HA.out (by simp [impl_MailPut.l0])
          | succ k1 =>
            have H:=HA.out
            clear HA
            simp only [impl_MailPut.l0] at H
            by_cases c13:x17_1 < (l0_2.length:Int)
            · rw [if_pos c13] at H
              have c13b0:decide (x17_1 < (l0_2.length:Int))=true:=decide_eq_true c13
              clear c13
              by_cases c14:0≤x17_1
              · rw [if_pos c14] at H
                have c14b0:decide (0≤x17_1)=true:=decide_eq_true c14
                clear c14
                by_cases c15:x17_1 < (l0_2.length:Int)
                · rw [if_pos c15] at H
                  have c15b0:decide (x17_1 < (l0_2.length:Int))=true:=decide_eq_true c15
                  clear c15
                  replace H:=Option.bind_eq_some_iff.mp H
                  obtain ⟨t106,A160,H⟩:=H
                  replace H:(if 3+t106.size≤9223372036854775807 then (if ((⟨#[116,111,32]⟩:ByteArray)++t106).size+2≤9223372036854775807 then (if x3_1.size+(((⟨#[116,111,32]⟩:ByteArray)++t106)++(⟨#[13,10]⟩:ByteArray)).size≤9223372036854775807 then (impl_MailPut.l0 k1 (x3_1++(((⟨#[116,111,32]⟩:ByteArray)++t106)++(⟨#[13,10]⟩:ByteArray))) l0_2 (l0_2.length:Int) (wrap64 (x17_1+1)) a0_0 a0_1 l0_2 l0_3) else (none)) else (none)) else (none))=some r:=H
                  have A16:=Aside0.mk A160
                  clear A160
                  by_cases c17:3+t106.size≤9223372036854775807
                  · rw [if_pos c17] at H
                    have c17b0:=eq_true c17
                    have c17b1:decide (3+t106.size≤9223372036854775807)=true:=decide_eq_true c17
                    try have c17b2:(9223372036854775807 < 3+t106.size)=False:=eq_false (Nat.not_lt.2 c17)
                    by_cases c18:((⟨#[116,111,32]⟩:ByteArray)++t106).size+2≤9223372036854775807
                    · rw [if_pos c18] at H
                      have c18b0:=eq_true c18
                      have c18b1:decide (((⟨#[116,111,32]⟩:ByteArray)++t106).size+2≤9223372036854775807)=true:=decide_eq_true c18
                      try have c18b2:(9223372036854775807 < ((⟨#[116,111,32]⟩:ByteArray)++t106).size+2)=False:=eq_false (Nat.not_lt.2 c18)
                      try have c18b3:=c18
                      try simp only [ByteArray.size_append',sz1,sz2,sz3,sz4,sz5,sz6,sz7,sz8] at c18b3
                      try have c18b4:=eq_true c18b3
                      try have c18b5:=eq_false (Nat.not_lt.2 c18b3)
                      by_cases c19:x3_1.size+(((⟨#[116,111,32]⟩:ByteArray)++t106)++(⟨#[13,10]⟩:ByteArray)).size≤9223372036854775807
                      · rw [if_pos c19] at H
                        have c19b0:=eq_true c19
                        have c19b1:decide (x3_1.size+(((⟨#[116,111,32]⟩:ByteArray)++t106)++(⟨#[13,10]⟩:ByteArray)).size≤9223372036854775807)=true:=decide_eq_true c19
                        try have c19b2:(9223372036854775807 < x3_1.size+(((⟨#[116,111,32]⟩:ByteArray)++t106)++(⟨#[13,10]⟩:ByteArray)).size)=False:=eq_false (Nat.not_lt.2 c19)
                        try have c19b3:=c19
                        try simp only [ByteArray.size_append',sz1,sz2,sz3,sz4,sz5,sz6,sz7,sz8] at c19b3
                        try have c19b4:=eq_true c19b3
                        try have c19b5:=eq_false (Nat.not_lt.2 c19b3)
                        have H':=Aside0.mk H
                        clear H
                        have p104:0≤(x17_1:Int):=of_decide_eq_true (by first|(with_reducible assumption)|assumption)
                        have q104:x17_1 < (l0_2.length:Int):=of_decide_eq_true (by first|(with_reducible assumption)|assumption)
                        obtain ⟨ad104,e104,hx104_0,hx104_1⟩:=at_T24 HR0_2.out x17_1 p104 q104
                        cases e104
                        replace hx104_0:=(HB.out.cell (World.block_lt_of_cell? w _ hx104_0)).trans hx104_0
                        replace hx104_1:=(HB.out.cell (World.block_lt_of_cell? w _ hx104_1)).trans hx104_1
                        replace p104:=eq_true p104
                        replace q104:=eq_true q104
                        go_wp2_with (first|((with_reducible refine gate_dst (N:=5) rfl ?_);refine box_event ?hg (N:=5) ?hd (cs:=#[.string (⟨#[]⟩:ByteArray),.string (⟨#[]⟩:ByteArray)]) (t:=24) ?hr ?_;(case hd=>rfl);(case hg=>rfl);(case hr=>first|(go_simp;done)|(go_simp;rfl));intro gb105 hg w20 hbox hb;have n0_:=Aside0.mk (blk_below (g:=gb101) (o:=.cells #[.string a0_0,.string a0_1,.slice (some ad104) l0_2.length c0_2,.slice A0_3 l0_3.length c0_3] 28 (0,0)) (by (with_reducible repeat (first|refine blk_drewN ?_ _|refine blk_drew ?_|refine blk_alloc ?_ _));exact BK101.out) hb);have n1_:=Aside0.mk (below_step (by repeat (first|(with_reducible first|exact HB.out|apply below_alloc|apply pw_below_drewN|apply below_drew1|refine below_set ?_ GE101.out)|exact HB.out)) hb);have n2_:=Aside0.mk (hbox);have n3_:=Aside0.mk ((by rw [hg];exact (below_size (by repeat (first|(with_reducible first|exact HB.out|apply below_alloc|apply pw_below_drewN|apply below_drew1|refine below_set ?_ GE101.out)|exact HB.out))):w.heap.size≤gb105));have n4_:=Aside0.mk ((by rw [hg];exact (below_size (by repeat (first|(with_reducible first|exact HB.out|apply below_alloc|apply pw_below_drewN|apply below_drew1|refine below_set ?_ GE101.out)|exact HB.out))):w.heap.size≤gb105));have n5_:=Aside0.mk ((by rw [hg];exact Nat.ne_of_lt (blk_lt (g:=gb101) (o:=.cells #[.string a0_0,.string a0_1,.slice (some ad104) l0_2.length c0_2,.slice A0_3 l0_3.length c0_3] 28 (0,0)) (by (with_reducible repeat (first|refine blk_drewN ?_ _|refine blk_drew ?_|refine blk_alloc ?_ _));exact BK101.out)):gb101≠gb105));have n6_:=Aside0.mk ((by rw [hg];exact Nat.ne_of_gt (blk_lt (g:=gb101) (o:=.cells #[.string a0_0,.string a0_1,.slice (some ad104) l0_2.length c0_2,.slice A0_3 l0_3.length c0_3] 28 (0,0)) (by (with_reducible repeat (first|refine blk_drewN ?_ _|refine blk_drew ?_|refine blk_alloc ?_ _));exact BK101.out)):gb105≠gb101));clear BK101;clear HB;have BK101:=n0_;have HB:=n1_;have BK105:=n2_;have GW105:=n3_;have GE105:=n4_;have NB101_105:=n5_;have NB105_101:=n6_;clear n0_ n1_ n2_ n3_ n4_ n5_ n6_;clear hb hbox hg;have hnb21:=NB105_101.out;have hnc21:=NB101_105.out;have hcz22_0:w20.cell? ⟨gb105,0,none⟩=some (.string (⟨#[]⟩:ByteArray)):=(blk_cell BK105.out 0).trans rfl;have hcz22_1:w20.cell? ⟨gb105,1,none⟩=some (.string (⟨#[]⟩:ByteArray)):=(blk_cell BK105.out 1).trans rfl;have hfz22_0:=blk_frozen BK105.out 0;have hfz22_1:=blk_frozen BK105.out 1)|((with_reducible refine gate_callee (f:=24) rfl ?_);refine goesL_ (some 23) rfl rfl Tryz.func24 (by kernel_rfl) rfl #[.agg #[.string ((rd_T24 l0_2 x17_1).f0),.string ((rd_T24 l0_2 x17_1).f1)]] rfl (by (try simp only [List.map_toArray,List.map_cons,List.map_nil]);first|done|rfl|(simp only [List.length_drop,List.length_take];rfl)) ?_;(with_reducible refine (impl_Addr_text.calls ((rd_T24 l0_2 x17_1).f0) ((rd_T24 l0_2 x17_1).f1) t106 _ A16.out).mono ?_);rintro e w23 ⟨rfl,hb⟩;refine ⟨_,rfl,?_⟩;have n0_:=Aside0.mk (blk_below (g:=gb101) (o:=.cells #[.string a0_0,.string a0_1,.slice (some ad104) l0_2.length c0_2,.slice A0_3 l0_3.length c0_3] 28 (0,0)) (by (with_reducible repeat (first|refine blk_drewN ?_ _|refine blk_drew ?_|refine blk_alloc ?_ _));refine blk_far ?_ NB101_105.out _;(with_reducible repeat (first|refine blk_drewN ?_ _|refine blk_drew ?_|refine blk_alloc ?_ _));refine blk_far ?_ NB101_105.out _;(with_reducible repeat (first|refine blk_drewN ?_ _|refine blk_drew ?_|refine blk_alloc ?_ _));exact BK101.out) hb);have n1_:=Aside0.mk (blk_below (g:=gb105) (o:=.cells #[.string ((rd_T24 l0_2 x17_1).f0),.string ((rd_T24 l0_2 x17_1).f1)] 24 (0,0)) (by (with_reducible repeat (first|refine blk_drewN ?_ _|refine blk_drew ?_|refine blk_alloc ?_ _));refine blk_put (cs:=#[.string ((rd_T24 l0_2 x17_1).f0),.string (⟨#[]⟩:ByteArray)]) ?_ 1 _ rfl;(with_reducible repeat (first|refine blk_drewN ?_ _|refine blk_drew ?_|refine blk_alloc ?_ _));refine blk_put (cs:=#[.string (⟨#[]⟩:ByteArray),.string (⟨#[]⟩:ByteArray)]) ?_ 0 _ rfl;(with_reducible repeat (first|refine blk_drewN ?_ _|refine blk_drew ?_|refine blk_alloc ?_ _));exact BK105.out) hb);have n2_:=Aside0.mk (below_step (by repeat (first|(with_reducible first|exact HB.out|apply below_alloc|apply pw_below_drewN|apply below_drew1|refine below_set ?_ GE101.out|refine below_set ?_ GE105.out)|exact HB.out)) hb);clear BK101;clear BK105;clear HB;have BK101:=n0_;have BK105:=n1_;have HB:=n2_;clear n0_ n1_ n2_;(try clear hb);(try clear hb2);(try clear hk);(try clear hi)))
                        go_roundg k1
                        case measure=>have:=HK1.out;omega
                        case rel=>exact ⟨(x3_1++(((⟨#[116,111,32]⟩:ByteArray)++t106)++(⟨#[13,10]⟩:ByteArray))),(wrap64 (x17_1+1)),(by first|rfl|(simp;done)|(simp [*];done)),(by first|rfl|(simp;done)|(simp [*];done)),H',⟨by have:=HK1.out;omega⟩,⟨by (with_reducible repeat (first|refine blk_drewN ?_ _|refine blk_drew ?_|refine blk_alloc ?_ _));exact BK101.out⟩,⟨by repeat (first|(with_reducible first|exact HB.out|apply below_alloc|apply pw_below_drewN|apply below_drew1|refine below_set ?_ GE101.out|refine below_set ?_ GE105.out)|exact HB.out)⟩⟩
                      · rw [if_neg c19] at H
                        exact absurd H (by simp)
                    · rw [if_neg c18] at H
                      exact absurd H (by simp)
                  · rw [if_neg c17] at H
                    exact absurd H (by simp)
                · rw [if_neg c15] at H
                  exact absurd H (by simp)
              · rw [if_neg c14] at H
                exact absurd H (by simp)
            · rw [if_neg c13] at H
              have c13b0:decide (x17_1 < (l0_2.length:Int))=false:=decide_eq_false c13
              clear c13
              by_cases c24:x3_1.size+2≤9223372036854775807
              · rw [if_pos c24] at H
                have c24b0:=eq_true c24
                have c24b1:decide (x3_1.size+2≤9223372036854775807)=true:=decide_eq_true c24
                try have c24b2:(9223372036854775807 < x3_1.size+2)=False:=eq_false (Nat.not_lt.2 c24)
                replace H:=Option.bind_eq_some_iff.mp H
                obtain ⟨t107,A250,H⟩:=H
                replace H:(if (x3_1++(⟨#[13,10]⟩:ByteArray)).size+t107.size≤9223372036854775807 then (some ((x3_1++(⟨#[13,10]⟩:ByteArray))++t107)) else (none))=some r:=H
                have A25:=Aside0.mk A250
                clear A250
                by_cases c26:(x3_1++(⟨#[13,10]⟩:ByteArray)).size+t107.size≤9223372036854775807
                · rw [if_pos c26] at H
                  have c26b0:=eq_true c26
                  have c26b1:decide ((x3_1++(⟨#[13,10]⟩:ByteArray)).size+t107.size≤9223372036854775807)=true:=decide_eq_true c26
                  try have c26b2:(9223372036854775807 < (x3_1++(⟨#[13,10]⟩:ByteArray)).size+t107.size)=False:=eq_false (Nat.not_lt.2 c26)
                  try have c26b3:=c26
                  try simp only [ByteArray.size_append',sz1,sz2,sz3,sz4,sz5,sz6,sz7,sz8] at c26b3
                  try have c26b4:=eq_true c26b3
                  try have c26b5:=eq_false (Nat.not_lt.2 c26b3)
                  obtain rfl:=Option.some.inj H
                  have hcz27_0:wr.cell? ⟨gb101,0,none⟩=some (.string a0_0):=(blk_cell BK101.out 0).trans rfl
                  have hcz27_1:wr.cell? ⟨gb101,1,none⟩=some (.string a0_1):=(blk_cell BK101.out 1).trans rfl
                  have hcz27_2:wr.cell? ⟨gb101,2,none⟩=some (.slice A0_2 l0_2.length c0_2):=(blk_cell BK101.out 2).trans rfl
                  have hcz27_3:wr.cell? ⟨gb101,3,none⟩=some (.slice A0_3 l0_3.length c0_3):=(blk_cell BK101.out 3).trans rfl
                  have hfz27_0:=blk_frozen BK101.out 0
                  have hfz27_1:=blk_frozen BK101.out 1
                  have hfz27_2:=blk_frozen BK101.out 2
                  have hfz27_3:=blk_frozen BK101.out 3
                  go_wp2_with (first|((with_reducible refine gate_callee (f:=55) rfl ?_);refine goesL_ (some 32) rfl rfl Tryz.func55 (by kernel_rfl) rfl #[.slice A0_3 l0_3.length c0_3] rfl (by (try simp only [List.map_toArray,List.map_cons,List.map_nil]);first|done|rfl|(simp only [List.length_drop,List.length_take];rfl)) ?_;(with_reducible refine (impl_dotted.calls _ _ l0_3 t107 _ ?side1 ?side2 A25.out).mono ?_);(case side1=>repeat (first|exact (Kd.C_below HR0_3.out HB.out)|(with_reducible refine Kd.C_alloc ?_ _)|(with_reducible refine Kd.C_drewN ?_ _)|(with_reducible refine Kd.C_drew ?_)));(case side2=>exact HC0_3.out);rintro e w28 ⟨rfl,hb⟩;refine ⟨_,rfl,?_⟩;have n0_:=Aside0.mk (blk_below (g:=gb101) (o:=.cells #[.string a0_0,.string a0_1,.slice A0_2 l0_2.length c0_2,.slice A0_3 l0_3.length c0_3] 28 (0,0)) (by (with_reducible repeat (first|refine blk_drewN ?_ _|refine blk_drew ?_|refine blk_alloc ?_ _));exact BK101.out) hb);have n1_:=Aside0.mk (below_step (by repeat (first|(with_reducible first|exact HB.out|apply below_alloc|apply pw_below_drewN|apply below_drew1|refine below_set ?_ GE101.out)|exact HB.out)) hb);clear BK101;clear HB;have BK101:=n0_;have HB:=n1_;clear n0_ n1_;(try clear hb);(try clear hb2);(try clear hk);(try clear hi)))
                  go_ret
                  exact ⟨by first|rfl|(simp [errW_none,errW_some]<;>rfl)|(simp [*,errW_none,errW_some]<;>rfl),by repeat (first|(with_reducible first|exact HB.out|apply below_alloc|apply pw_below_drewN|apply below_drew1|refine below_set ?_ GE101.out)|exact HB.out)⟩
                · rw [if_neg c26] at H
                  exact absurd H (by simp)
              · rw [if_neg c24] at H
                exact absurd H (by simp)
      · rw [if_neg c6] at H
        exact absurd H (by simp)
    · rw [if_neg c5] at H
      exact absurd H (by simp)
  · replace c3:=Bool.eq_false_iff.mpr c3
    subst c3
    have H1:(some (⟨#[]⟩:ByteArray))=some r:=by rw [if_neg (show ¬ (false=true) by decide)] at H;exact H
    clear H
    have H:=H1
    clear H1
    obtain rfl:=Option.some.inj H
    go_enter Tryz.func23,Tryz.ntmps23
    go_wp2_with (first|((with_reducible refine gate_dst (N:=1) rfl ?_);refine box_event ?hg (N:=1) ?hd (cs:=#[.string a0_0,.string a0_1,.slice A0_2 l0_2.length c0_2,.slice A0_3 l0_3.length c0_3]) (t:=28) ?hr ?_;(case hd=>rfl);(case hg=>rfl);(case hr=>first|(go_simp;done)|(go_simp;rfl));intro gb101 hg w29 hbox hb;have n0_:=Aside0.mk (below_step (by repeat (first|(with_reducible first|exact HB.out|apply below_alloc|apply pw_below_drewN|apply below_drew1)|exact HB.out)) hb);have n1_:=Aside0.mk (hbox);have n2_:=Aside0.mk ((by rw [hg];exact (below_size (by repeat (first|(with_reducible first|exact HB.out|apply below_alloc|apply pw_below_drewN|apply below_drew1)|exact HB.out))):w.heap.size≤gb101));have n3_:=Aside0.mk ((by rw [hg];exact (below_size (by repeat (first|(with_reducible first|exact HB.out|apply below_alloc|apply pw_below_drewN|apply below_drew1)|exact HB.out))):w.heap.size≤gb101));clear HB;have HB:=n0_;have BK101:=n1_;have GW101:=n2_;have GE101:=n3_;clear n0_ n1_ n2_ n3_;clear hb hbox hg;have hcz30_0:w29.cell? ⟨gb101,0,none⟩=some (.string a0_0):=(blk_cell BK101.out 0).trans rfl;have hcz30_1:w29.cell? ⟨gb101,1,none⟩=some (.string a0_1):=(blk_cell BK101.out 1).trans rfl;have hcz30_2:w29.cell? ⟨gb101,2,none⟩=some (.slice A0_2 l0_2.length c0_2):=(blk_cell BK101.out 2).trans rfl;have hcz30_3:w29.cell? ⟨gb101,3,none⟩=some (.slice A0_3 l0_3.length c0_3):=(blk_cell BK101.out 3).trans rfl;have hfz30_0:=blk_frozen BK101.out 0;have hfz30_1:=blk_frozen BK101.out 1;have hfz30_2:=blk_frozen BK101.out 2;have hfz30_3:=blk_frozen BK101.out 3)|((with_reducible refine gate_callee (f:=30) rfl ?_);refine goesL_ (some 7) rfl rfl Tryz.func30 (by kernel_rfl) rfl #[.agg #[.string a0_0,.string a0_1,.slice A0_2 l0_2.length c0_2,.slice A0_3 l0_3.length c0_3]] rfl (by (try simp only [List.map_toArray,List.map_cons,List.map_nil]);first|done|rfl|(simp only [List.length_drop,List.length_take];rfl)) ?_;(with_reducible refine (impl_MailOk.calls k a0_0 a0_1 _ _ l0_2 _ _ l0_3 false _ ?side1 ?side2 ?side3 ?side4 ?side5 A2.out).mono ?_);(case side1=>repeat (first|exact (Kd.C_below HR0_2.out HB.out)|(with_reducible refine Kd.C_alloc ?_ _)|(with_reducible refine Kd.C_drewN ?_ _)|(with_reducible refine Kd.C_drew ?_)));(case side2=>exact HC0_2.out);(case side3=>repeat (first|exact (Kd.C_below HR0_3.out HB.out)|(with_reducible refine Kd.C_alloc ?_ _)|(with_reducible refine Kd.C_drewN ?_ _)|(with_reducible refine Kd.C_drew ?_)));(case side4=>exact HC0_3.out);(case side5=>first|(with_reducible exact HG.out)|((with_reducible repeat (first|exact HG.out|apply GOK.drewN|apply GOK.drew));done)|exact GOK.below HG.out (by repeat (first|(with_reducible first|exact HB.out|apply below_alloc|apply pw_below_drewN|apply below_drew1|refine below_set ?_ GE101.out)|exact HB.out)));rintro e w31 ⟨rfl,hb⟩;refine ⟨_,rfl,?_⟩;have n0_:=Aside0.mk (blk_below (g:=gb101) (o:=.cells #[.string a0_0,.string a0_1,.slice A0_2 l0_2.length c0_2,.slice A0_3 l0_3.length c0_3] 28 (0,0)) (by (with_reducible repeat (first|refine blk_drewN ?_ _|refine blk_drew ?_|refine blk_alloc ?_ _));exact BK101.out) hb);have n1_:=Aside0.mk (below_step (by repeat (first|(with_reducible first|exact HB.out|apply below_alloc|apply pw_below_drewN|apply below_drew1|refine below_set ?_ GE101.out)|exact HB.out)) hb);clear BK101;clear HB;have BK101:=n0_;have HB:=n1_;clear n0_ n1_;(try clear hb);(try clear hb2);(try clear hk);(try clear hi)))
    go_ret
    exact ⟨by first|rfl|(simp [errW_none,errW_some]<;>rfl)|(simp [*,errW_none,errW_some]<;>rfl),by repeat (first|(with_reducible first|exact HB.out|apply below_alloc|apply pw_below_drewN|apply below_drew1|refine below_set ?_ GE101.out)|exact HB.out)⟩
end Go.Proofs.YtjdpdkdhfnpcgaaGreatDoor.Q
