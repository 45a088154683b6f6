/- Of a text of ours what this claim needs. -/
import Derived.Test.YthkibaldmjfmmaaDoorZzFnExactCliOkWQ0
import Derived.Test.YthkibaldmjfmmaaDoorZzFnExactCliOkWQ3
import Derived.Test.YthkibaldmjfmmaaDoorZzFnExactCliOkWQ5
import Derived.Test.YthkibaldmjfmmaaDoorZzFnExactCliOkWQ7
import Derived.Test.YthkibaldmjfmmaaDoorZzFnExactCliOkWQ8
namespace Go.Proofs.YthkibaldmjfmmaaDoor.Q
open Go.RowKit Go.Proofs.YthkibaldmjfmmaaDoorW.PrintWords Go.Proofs.YthkibaldmjfmmaaDoorW.PrintLast Go.Proofs.YthkibaldmjfmmaaDoorW.PrintMore
attribute [local go_sem] max2_int min2_int max_two min_two max_three min_three max_four min_four
set_option linter.unusedVariables false
set_option linter.unusedSimpArgs false
def spec_l4Ok.l0:Nat→Int→ByteArray→ByteArray→ByteArray→List (S30)→List ByteArray→Int→Int→List Int→Option (Bool)
  | 0,_,_,_,_,_,_,_,_,_=>none
  | k+1,x3,x266000,x266001,x266002,x266003,x266004,x266005,x266006,x266007=>if x3 < (x266007.length:Int) then (if 0≤x3 then ((spec_l1In.f (rd x266007 x3) 0 4).bind fun t267=>(if t267=true then (spec_l4Ok.l0 k (wrap64 (x3+1)) x266000 x266001 x266002 x266003 x266004 x266005 x266006 x266007) else (some false))) else (none)) else ((spec_l2Ok.f k x266001 x266002 x266003 x266004).bind fun t268=>(if t268=true then ((spec_l1Domain.f k x266000).bind fun t269=>(if t269=true then (if (x266007.length:Int)=(x266003.length:Int) then ((spec_l1In.f x266005 0 7).bind fun t270=>(if t270=true then ((spec_l1In.f x266006 0 (x266003.length:Int)).bind fun t271=>(if t271=true then (if x266005=3 then (some (decide (x266006 > 0))) else (some true)) else (some false))) else (some false))) else (some false)) else (some false))) else (some false)))
def spec_l4Ok.f (k:Nat) (a0_0:ByteArray) (a0_1:ByteArray) (a0_2:ByteArray) (l0_3:List (S30)) (l0_4:List ByteArray) (a0_5:Int) (a0_6:Int) (l0_7:List Int):Option (Bool):=spec_l4Ok.l0 k 0 a0_0 a0_1 a0_2 l0_3 l0_4 a0_5 a0_6 l0_7
set_option maxHeartbeats 8000000 in
set_option maxRecDepth 100000 in
theorem spec_l4Ok.calls (k:Nat) (a0_0:ByteArray) (a0_1:ByteArray) (a0_2:ByteArray) (A0_3:Option Addr) (c0_3:Nat) (l0_3:List (S30)) (A0_4:Option Addr) (c0_4:Nat) (l0_4:List ByteArray) (a0_5:Int) (a0_6:Int) (A0_7:Option Addr) (c0_7:Nat) (l0_7:List Int) (r:Bool) (w:World) (hr0_3:Kd.C k30 w A0_3 l0_3.length l0_3) (hc0_3:l0_3.length≤c0_3) (hr0_4:Kd.C Kd.string w A0_4 l0_4.length l0_4) (hc0_4:l0_4.length≤c0_4) (hr0_7:Kd.C (Kd.int .i64) w A0_7 l0_7.length l0_7) (hc0_7:l0_7.length≤c0_7) (h:spec_l4Ok.f k a0_0 a0_1 a0_2 l0_3 l0_4 a0_5 a0_6 l0_7=some r) :
    Calls Tryd.prog 74 #[.agg #[.string a0_0,.string a0_1,.string a0_2,.slice A0_3 l0_3.length c0_3,.slice A0_4 l0_4.length c0_4,.int .i64 a0_5,.int .i64 a0_6,.slice A0_7 l0_7.length c0_7]] w fun e w'=>e=.returned (.bool r)∧Below w.heap.size w w':=by
  have hu67:=Tryd.underlying67
  have hu33:=Tryd.underlying33
  have HR0_3:=Aside0.mk hr0_3
  have HC0_3:=Aside0.mk hc0_3
  clear hr0_3 hc0_3
  have HR0_4:=Aside0.mk hr0_4
  have HC0_4:=Aside0.mk hc0_4
  clear hr0_4 hc0_4
  have HR0_7:=Aside0.mk hr0_7
  have HC0_7:=Aside0.mk hc0_7
  clear hr0_7 hc0_7
  have HB:=Aside0.mk (Below.refl w.heap.size w)
  have H:(spec_l4Ok.l0 k 0 a0_0 a0_1 a0_2 l0_3 l0_4 a0_5 a0_6 l0_7)=some r:=h
  clear h
  have H':=Aside0.mk H
  clear H
  go_enter Tryd.func74,Tryd.ntmps74
  go_wp2_with (first|((with_reducible refine gate_dst (N:=1) rfl ?_);(try (refine gate_guard (by rfl) ?_;dsimp only));refine box_event ?hg (N:=1) ?hd (cs:=#[.string a0_0,.string a0_1,.string a0_2,.slice A0_3 l0_3.length c0_3,.slice A0_4 l0_4.length c0_4,.int .i64 a0_5,.int .i64 a0_6,.slice A0_7 l0_7.length c0_7]) (t:=67) ?hr ?_;(case hd=>rfl);(case hg=>rfl);(case hr=>first|(go_simp;done)|(go_simp;rfl));intro gb265 hg w2 hbox hb;have n0_:=Aside0.mk (below_step (by repeat (first|(with_reducible first|exact HB.out|apply below_alloc|apply pw_below_drewN|apply below_drew1)|exact HB.out)) hb);have n1_:=Aside0.mk (hbox);have n2_:=Aside0.mk ((by rw [hg];exact (below_size (by repeat (first|(with_reducible first|exact HB.out|apply below_alloc|apply pw_below_drewN|apply below_drew1)|exact HB.out))):w.heap.size≤gb265));have n3_:=Aside0.mk ((by rw [hg];exact (below_size (by repeat (first|(with_reducible first|exact HB.out|apply below_alloc|apply pw_below_drewN|apply below_drew1)|exact HB.out))):w.heap.size≤gb265));clear HB;have HB:=n0_;have BK265:=n1_;have GW265:=n2_;have GE265:=n3_;clear n0_ n1_ n2_ n3_;clear hb hbox hg))
  go_loopg [3] k (fun kq v3 w'=>∃ (x3_1:Int),v3=.int .i64 x3_1∧Aside0 (spec_l4Ok.l0 kq x3_1 a0_0 a0_1 a0_2 l0_3 l0_4 a0_5 a0_6 l0_7=some r)∧Aside0 (kq≤k)∧Aside0 (w'.heap[gb265]?=some (.cells #[.string a0_0,.string a0_1,.string a0_2,(.slice A0_3 l0_3.length c0_3),(.slice A0_4 l0_4.length c0_4),.int .i64 a0_5,.int .i64 a0_6,(.slice A0_7 l0_7.length c0_7)] 67 (0,0)))∧Aside0 (Below w.heap.size w w'))
  case atStart=>exact ⟨(0),(by first|rfl|(simp;done)|(simp [*];done)),H',⟨Nat.le_refl _⟩,⟨by (with_reducible repeat (first|refine blk_drewN ?_ _|refine blk_drew ?_|refine blk_alloc ?_ _));exact BK265.out⟩,⟨by repeat (first|(with_reducible first|exact HB.out|apply below_alloc|apply pw_below_drewN|apply below_drew1|refine below_set ?_ GE265.out)|exact HB.out)⟩⟩
  case round =>
    clear H'
    try clear p2
    obtain ⟨x3_1,rfl,HA,HK1,BK265,HB⟩:=hrel
    cases gk with
    | zero=>exact absurd HA.out (by simp [spec_l4Ok.l0])
    | succ k1 =>
      have H:=HA.out
      clear HA
      simp only [spec_l4Ok.l0] at H
      by_cases c3:x3_1 < (l0_7.length:Int)
      · rw [if_pos c3] at H
        have c3b0:decide (x3_1 < (l0_7.length:Int))=true:=decide_eq_true c3
        clear c3
        by_cases c4:0≤x3_1
        · rw [if_pos c4] at H
          have c4b0:decide (0≤x3_1)=true:=decide_eq_true c4
          clear c4
          replace H:=Option.bind_eq_some_iff.mp H
          obtain ⟨t267,A50,H⟩:=H
          replace H:(if t267=true then (spec_l4Ok.l0 k1 (wrap64 (x3_1+1)) a0_0 a0_1 a0_2 l0_3 l0_4 a0_5 a0_6 l0_7) else (some false))=some r:=H
          have A5:=Aside0.mk A50
          clear A50
          by_cases c6:t267=true
          · subst c6
            have H1:(spec_l4Ok.l0 k1 (wrap64 (x3_1+1)) a0_0 a0_1 a0_2 l0_3 l0_4 a0_5 a0_6 l0_7)=some r:=by rw [if_pos rfl] at H;exact H
            clear H
            have H:=H1
            clear H1
            have H':=Aside0.mk H
            clear H
            have hcz7_0:wr.cell? ⟨gb265,0,none⟩=some (.string a0_0):=(blk_cell BK265.out 0).trans rfl
            have hcz7_1:wr.cell? ⟨gb265,1,none⟩=some (.string a0_1):=(blk_cell BK265.out 1).trans rfl
            have hcz7_2:wr.cell? ⟨gb265,2,none⟩=some (.string a0_2):=(blk_cell BK265.out 2).trans rfl
            have hcz7_3:wr.cell? ⟨gb265,3,none⟩=some (.slice A0_3 l0_3.length c0_3):=(blk_cell BK265.out 3).trans rfl
            have hcz7_4:wr.cell? ⟨gb265,4,none⟩=some (.slice A0_4 l0_4.length c0_4):=(blk_cell BK265.out 4).trans rfl
            have hcz7_5:wr.cell? ⟨gb265,5,none⟩=some (.int .i64 a0_5):=(blk_cell BK265.out 5).trans rfl
            have hcz7_6:wr.cell? ⟨gb265,6,none⟩=some (.int .i64 a0_6):=(blk_cell BK265.out 6).trans rfl
            have hcz7_7:wr.cell? ⟨gb265,7,none⟩=some (.slice A0_7 l0_7.length c0_7):=(blk_cell BK265.out 7).trans rfl
            have hfz7_0:=blk_frozen BK265.out 0
            have hfz7_1:=blk_frozen BK265.out 1
            have hfz7_2:=blk_frozen BK265.out 2
            have hfz7_3:=blk_frozen BK265.out 3
            have hfz7_4:=blk_frozen BK265.out 4
            have hfz7_5:=blk_frozen BK265.out 5
            have hfz7_6:=blk_frozen BK265.out 6
            have hfz7_7:=blk_frozen BK265.out 7
            have p266:0≤(x3_1:Int):=of_decide_eq_true (by first|(with_reducible assumption)|assumption)
            have q266:x3_1 < (l0_7.length:Int):=of_decide_eq_true (by first|(with_reducible assumption)|assumption)
            obtain ⟨ad266,e266,hx266_0⟩:=Kd.at_int HR0_7.out x3_1 p266 q266
            cases e266
            replace hx266_0:=(HB.out.cell (World.block_lt_of_cell? w _ hx266_0)).trans hx266_0
            replace p266:=eq_true p266
            replace q266:=eq_true q266
            go_wp2_with (first|((with_reducible refine gate_callee (f:=92) rfl ?_);refine goesL_ (some 16) rfl rfl Tryd.func92 (by kernel_rfl) rfl #[.int .i64 (rd l0_7 x3_1),.int .i64 0,.int .i64 4] rfl (by (try simp only [List.map_toArray,List.map_cons,List.map_nil]);first|done|rfl|(simp only [List.length_drop,List.length_take];rfl)) ?_;(with_reducible refine (spec_l1In.calls (rd l0_7 x3_1) 0 4 true _ A5.out).mono ?_);rintro e w' ⟨rfl,⟨nd,rfl⟩⟩;refine ⟨_,rfl,?_⟩))
            go_roundg k1
            case measure=>have:=HK1.out;omega
            case rel=>exact ⟨(wrap64 (x3_1+1)),(by first|rfl|(simp;done)|(simp [*];done)),H',⟨by have:=HK1.out;omega⟩,⟨by (with_reducible repeat (first|refine blk_drewN ?_ _|refine blk_drew ?_|refine blk_alloc ?_ _));exact BK265.out⟩,⟨by repeat (first|(with_reducible first|exact HB.out|apply below_alloc|apply pw_below_drewN|apply below_drew1|refine below_set ?_ GE265.out)|exact HB.out)⟩⟩
          · replace c6:=Bool.eq_false_iff.mpr c6
            subst c6
            have H1:(some false)=some r:=by rw [if_neg (show ¬ (false=true) by decide)] at H;exact H
            clear H
            have H:=H1
            clear H1
            obtain rfl:=Option.some.inj H
            have hcz8_0:wr.cell? ⟨gb265,0,none⟩=some (.string a0_0):=(blk_cell BK265.out 0).trans rfl
            have hcz8_1:wr.cell? ⟨gb265,1,none⟩=some (.string a0_1):=(blk_cell BK265.out 1).trans rfl
            have hcz8_2:wr.cell? ⟨gb265,2,none⟩=some (.string a0_2):=(blk_cell BK265.out 2).trans rfl
            have hcz8_3:wr.cell? ⟨gb265,3,none⟩=some (.slice A0_3 l0_3.length c0_3):=(blk_cell BK265.out 3).trans rfl
            have hcz8_4:wr.cell? ⟨gb265,4,none⟩=some (.slice A0_4 l0_4.length c0_4):=(blk_cell BK265.out 4).trans rfl
            have hcz8_5:wr.cell? ⟨gb265,5,none⟩=some (.int .i64 a0_5):=(blk_cell BK265.out 5).trans rfl
            have hcz8_6:wr.cell? ⟨gb265,6,none⟩=some (.int .i64 a0_6):=(blk_cell BK265.out 6).trans rfl
            have hcz8_7:wr.cell? ⟨gb265,7,none⟩=some (.slice A0_7 l0_7.length c0_7):=(blk_cell BK265.out 7).trans rfl
            have hfz8_0:=blk_frozen BK265.out 0
            have hfz8_1:=blk_frozen BK265.out 1
            have hfz8_2:=blk_frozen BK265.out 2
            have hfz8_3:=blk_frozen BK265.out 3
            have hfz8_4:=blk_frozen BK265.out 4
            have hfz8_5:=blk_frozen BK265.out 5
            have hfz8_6:=blk_frozen BK265.out 6
            have hfz8_7:=blk_frozen BK265.out 7
            have p266:0≤(x3_1:Int):=of_decide_eq_true (by first|(with_reducible assumption)|assumption)
            have q266:x3_1 < (l0_7.length:Int):=of_decide_eq_true (by first|(with_reducible assumption)|assumption)
            obtain ⟨ad266,e266,hx266_0⟩:=Kd.at_int HR0_7.out x3_1 p266 q266
            cases e266
            replace hx266_0:=(HB.out.cell (World.block_lt_of_cell? w _ hx266_0)).trans hx266_0
            replace p266:=eq_true p266
            replace q266:=eq_true q266
            go_wp2_with (first|((with_reducible refine gate_callee (f:=92) rfl ?_);refine goesL_ (some 16) rfl rfl Tryd.func92 (by kernel_rfl) rfl #[.int .i64 (rd l0_7 x3_1),.int .i64 0,.int .i64 4] rfl (by (try simp only [List.map_toArray,List.map_cons,List.map_nil]);first|done|rfl|(simp only [List.length_drop,List.length_take];rfl)) ?_;(with_reducible refine (spec_l1In.calls (rd l0_7 x3_1) 0 4 false _ A5.out).mono ?_);rintro e w' ⟨rfl,⟨nd,rfl⟩⟩;refine ⟨_,rfl,?_⟩))
            go_ret
            exact ⟨by first|rfl|(simp [errW_none,errW_some]<;>rfl)|(simp [*,errW_none,errW_some]<;>rfl),by repeat (first|(with_reducible first|exact HB.out|apply below_alloc|apply pw_below_drewN|apply below_drew1|refine below_set ?_ GE265.out)|exact HB.out)⟩
        · rw [if_neg c4] at H
          exact absurd H (by simp)
      · rw [if_neg c3] at H
        have c3b0:decide (x3_1 < (l0_7.length:Int))=false:=decide_eq_false c3
        clear c3
        replace H:=Option.bind_eq_some_iff.mp H
        obtain ⟨t268,A90,H⟩:=H
        replace H:(if t268=true then ((spec_l1Domain.f k1 a0_0).bind fun t269=>(if t269=true then (if (l0_7.length:Int)=(l0_3.length:Int) then ((spec_l1In.f a0_5 0 7).bind fun t270=>(if t270=true then ((spec_l1In.f a0_6 0 (l0_3.length:Int)).bind fun t271=>(if t271=true then (if a0_5=3 then (some (decide (a0_6 > 0))) else (some true)) else (some false))) else (some false))) else (some false)) else (some false))) else (some false))=some r:=H
        have A9:=Aside0.mk A90
        clear A90
        by_cases c10:t268=true
        · subst c10
          have H1:((spec_l1Domain.f k1 a0_0).bind fun t269=>(if t269=true then (if (l0_7.length:Int)=(l0_3.length:Int) then ((spec_l1In.f a0_5 0 7).bind fun t270=>(if t270=true then ((spec_l1In.f a0_6 0 (l0_3.length:Int)).bind fun t271=>(if t271=true then (if a0_5=3 then (some (decide (a0_6 > 0))) else (some true)) else (some false))) else (some false))) else (some false)) else (some false)))=some r:=by rw [if_pos rfl] at H;exact H
          clear H
          have H:=H1
          clear H1
          replace H:=Option.bind_eq_some_iff.mp H
          obtain ⟨t269,A110,H⟩:=H
          replace H:(if t269=true then (if (l0_7.length:Int)=(l0_3.length:Int) then ((spec_l1In.f a0_5 0 7).bind fun t270=>(if t270=true then ((spec_l1In.f a0_6 0 (l0_3.length:Int)).bind fun t271=>(if t271=true then (if a0_5=3 then (some (decide (a0_6 > 0))) else (some true)) else (some false))) else (some false))) else (some false)) else (some false))=some r:=H
          have A11:=Aside0.mk A110
          clear A110
          by_cases c12:t269=true
          · subst c12
            have H1:(if (l0_7.length:Int)=(l0_3.length:Int) then ((spec_l1In.f a0_5 0 7).bind fun t270=>(if t270=true then ((spec_l1In.f a0_6 0 (l0_3.length:Int)).bind fun t271=>(if t271=true then (if a0_5=3 then (some (decide (a0_6 > 0))) else (some true)) else (some false))) else (some false))) else (some false))=some r:=by rw [if_pos rfl] at H;exact H
            clear H
            have H:=H1
            clear H1
            by_cases c13:(l0_7.length:Int)=(l0_3.length:Int)
            · rw [if_pos c13] at H
              have c13b0:((l0_7.length:Int)==(l0_3.length:Int))=true:=beq_iff_eq.mpr c13
              have c13b1:((l0_7.length:Int) != (l0_3.length:Int))=false:=bne_eq_false_iff_eq.mpr c13
              have c13b2:(l0_7.length==l0_3.length)=true:=by first|simpa using c13|(simp at c13 ⊢;omega)
              clear c13
              replace H:=Option.bind_eq_some_iff.mp H
              obtain ⟨t270,A140,H⟩:=H
              replace H:(if t270=true then ((spec_l1In.f a0_6 0 (l0_3.length:Int)).bind fun t271=>(if t271=true then (if a0_5=3 then (some (decide (a0_6 > 0))) else (some true)) else (some false))) else (some false))=some r:=H
              have A14:=Aside0.mk A140
              clear A140
              by_cases c15:t270=true
              · subst c15
                have H1:((spec_l1In.f a0_6 0 (l0_3.length:Int)).bind fun t271=>(if t271=true then (if a0_5=3 then (some (decide (a0_6 > 0))) else (some true)) else (some false)))=some r:=by rw [if_pos rfl] at H;exact H
                clear H
                have H:=H1
                clear H1
                replace H:=Option.bind_eq_some_iff.mp H
                obtain ⟨t271,A160,H⟩:=H
                replace H:(if t271=true then (if a0_5=3 then (some (decide (a0_6 > 0))) else (some true)) else (some false))=some r:=H
                have A16:=Aside0.mk A160
                clear A160
                by_cases c17:t271=true
                · subst c17
                  have H1:(if a0_5=3 then (some (decide (a0_6 > 0))) else (some true))=some r:=by rw [if_pos rfl] at H;exact H
                  clear H
                  have H:=H1
                  clear H1
                  by_cases c18:a0_5=3
                  · rw [if_pos c18] at H
                    have c18b0:(a0_5==3)=true:=beq_iff_eq.mpr c18
                    have c18b1:(a0_5 != 3)=false:=bne_eq_false_iff_eq.mpr c18
                    clear c18
                    obtain rfl:=Option.some.inj H
                    have hcz19_0:wr.cell? ⟨gb265,0,none⟩=some (.string a0_0):=(blk_cell BK265.out 0).trans rfl
                    have hcz19_1:wr.cell? ⟨gb265,1,none⟩=some (.string a0_1):=(blk_cell BK265.out 1).trans rfl
                    have hcz19_2:wr.cell? ⟨gb265,2,none⟩=some (.string a0_2):=(blk_cell BK265.out 2).trans rfl
                    have hcz19_3:wr.cell? ⟨gb265,3,none⟩=some (.slice A0_3 l0_3.length c0_3):=(blk_cell BK265.out 3).trans rfl
                    have hcz19_4:wr.cell? ⟨gb265,4,none⟩=some (.slice A0_4 l0_4.length c0_4):=(blk_cell BK265.out 4).trans rfl
                    have hcz19_5:wr.cell? ⟨gb265,5,none⟩=some (.int .i64 a0_5):=(blk_cell BK265.out 5).trans rfl
                    have hcz19_6:wr.cell? ⟨gb265,6,none⟩=some (.int .i64 a0_6):=(blk_cell BK265.out 6).trans rfl
                    have hcz19_7:wr.cell? ⟨gb265,7,none⟩=some (.slice A0_7 l0_7.length c0_7):=(blk_cell BK265.out 7).trans rfl
                    have hfz19_0:=blk_frozen BK265.out 0
                    have hfz19_1:=blk_frozen BK265.out 1
                    have hfz19_2:=blk_frozen BK265.out 2
                    have hfz19_3:=blk_frozen BK265.out 3
                    have hfz19_4:=blk_frozen BK265.out 4
                    have hfz19_5:=blk_frozen BK265.out 5
                    have hfz19_6:=blk_frozen BK265.out 6
                    have hfz19_7:=blk_frozen BK265.out 7
                    go_wp2_with (first|((with_reducible refine gate_callee (f:=43) rfl ?_);refine goesL_ (some 20) rfl rfl Tryd.func43 (by kernel_rfl) rfl #[.agg #[.string a0_1,.string a0_2,.slice A0_3 l0_3.length c0_3,.slice A0_4 l0_4.length c0_4]] rfl (by (try simp only [List.map_toArray,List.map_cons,List.map_nil]);first|done|rfl|(simp only [List.length_drop,List.length_take];rfl)) ?_;(with_reducible refine (spec_l2Ok.calls k1 a0_1 a0_2 _ _ l0_3 _ _ l0_4 true _ ?side1 ?side2 ?side3 ?side4 A9.out).mono ?_);(case side1=>repeat (first|exact (Kd.C_below HR0_3.out HB.out)|(with_reducible refine Kd.C_alloc ?_ _)|(with_reducible refine Kd.C_drewN ?_ _)|(with_reducible refine Kd.C_drew ?_)));(case side2=>exact HC0_3.out);(case side3=>repeat (first|exact (Kd.C_below HR0_4.out HB.out)|(with_reducible refine Kd.C_alloc ?_ _)|(with_reducible refine Kd.C_drewN ?_ _)|(with_reducible refine Kd.C_drew ?_)));(case side4=>exact HC0_4.out);rintro e w20 ⟨rfl,hb⟩;refine ⟨_,rfl,?_⟩;have n0_:=Aside0.mk (blk_below (g:=gb265) (o:=.cells #[.string a0_0,.string a0_1,.string a0_2,.slice A0_3 l0_3.length c0_3,.slice A0_4 l0_4.length c0_4,.int .i64 a0_5,.int .i64 a0_6,.slice A0_7 l0_7.length c0_7] 67 (0,0)) (by (with_reducible repeat (first|refine blk_drewN ?_ _|refine blk_drew ?_|refine blk_alloc ?_ _));exact BK265.out) hb);have n1_:=Aside0.mk (below_step (by repeat (first|(with_reducible first|exact HB.out|apply below_alloc|apply pw_below_drewN|apply below_drew1|refine below_set ?_ GE265.out)|exact HB.out)) hb);clear BK265;clear HB;have BK265:=n0_;have HB:=n1_;clear n0_ n1_;(try clear hb);(try clear hb2);(try clear hk);(try clear hi);have hcz21_0:w20.cell? ⟨gb265,0,none⟩=some (.string a0_0):=(blk_cell BK265.out 0).trans rfl;have hcz21_1:w20.cell? ⟨gb265,1,none⟩=some (.string a0_1):=(blk_cell BK265.out 1).trans rfl;have hcz21_2:w20.cell? ⟨gb265,2,none⟩=some (.string a0_2):=(blk_cell BK265.out 2).trans rfl;have hcz21_3:w20.cell? ⟨gb265,3,none⟩=some (.slice A0_3 l0_3.length c0_3):=(blk_cell BK265.out 3).trans rfl;have hcz21_4:w20.cell? ⟨gb265,4,none⟩=some (.slice A0_4 l0_4.length c0_4):=(blk_cell BK265.out 4).trans rfl;have hcz21_5:w20.cell? ⟨gb265,5,none⟩=some (.int .i64 a0_5):=(blk_cell BK265.out 5).trans rfl;have hcz21_6:w20.cell? ⟨gb265,6,none⟩=some (.int .i64 a0_6):=(blk_cell BK265.out 6).trans rfl;have hcz21_7:w20.cell? ⟨gb265,7,none⟩=some (.slice A0_7 l0_7.length c0_7):=(blk_cell BK265.out 7).trans rfl;have hfz21_0:=blk_frozen BK265.out 0;have hfz21_1:=blk_frozen BK265.out 1;have hfz21_2:=blk_frozen BK265.out 2;have hfz21_3:=blk_frozen BK265.out 3;have hfz21_4:=blk_frozen BK265.out 4;have hfz21_5:=blk_frozen BK265.out 5;have hfz21_6:=blk_frozen BK265.out 6;have hfz21_7:=blk_frozen BK265.out 7)|(go_at_call 58;(with_reducible refine (spec_l1Domain.calls k1 a0_0 true _ A11.out).mono ?_);rintro e w22 ⟨rfl,hb⟩;have n0_:=Aside0.mk (blk_below (g:=gb265) (o:=.cells #[.string a0_0,.string a0_1,.string a0_2,.slice A0_3 l0_3.length c0_3,.slice A0_4 l0_4.length c0_4,.int .i64 a0_5,.int .i64 a0_6,.slice A0_7 l0_7.length c0_7] 67 (0,0)) (by (with_reducible repeat (first|refine blk_drewN ?_ _|refine blk_drew ?_|refine blk_alloc ?_ _));exact BK265.out) hb);have n1_:=Aside0.mk (below_step (by repeat (first|(with_reducible first|exact HB.out|apply below_alloc|apply pw_below_drewN|apply below_drew1|refine below_set ?_ GE265.out)|exact HB.out)) hb);clear BK265;clear HB;have BK265:=n0_;have HB:=n1_;clear n0_ n1_;(try clear hb);(try clear hb2);(try clear hk);(try clear hi);have hcz23_0:w22.cell? ⟨gb265,0,none⟩=some (.string a0_0):=(blk_cell BK265.out 0).trans rfl;have hcz23_1:w22.cell? ⟨gb265,1,none⟩=some (.string a0_1):=(blk_cell BK265.out 1).trans rfl;have hcz23_2:w22.cell? ⟨gb265,2,none⟩=some (.string a0_2):=(blk_cell BK265.out 2).trans rfl;have hcz23_3:w22.cell? ⟨gb265,3,none⟩=some (.slice A0_3 l0_3.length c0_3):=(blk_cell BK265.out 3).trans rfl;have hcz23_4:w22.cell? ⟨gb265,4,none⟩=some (.slice A0_4 l0_4.length c0_4):=(blk_cell BK265.out 4).trans rfl;have hcz23_5:w22.cell? ⟨gb265,5,none⟩=some (.int .i64 a0_5):=(blk_cell BK265.out 5).trans rfl;have hcz23_6:w22.cell? ⟨gb265,6,none⟩=some (.int .i64 a0_6):=(blk_cell BK265.out 6).trans rfl;have hcz23_7:w22.cell? ⟨gb265,7,none⟩=some (.slice A0_7 l0_7.length c0_7):=(blk_cell BK265.out 7).trans rfl;have hfz23_0:=blk_frozen BK265.out 0;have hfz23_1:=blk_frozen BK265.out 1;have hfz23_2:=blk_frozen BK265.out 2;have hfz23_3:=blk_frozen BK265.out 3;have hfz23_4:=blk_frozen BK265.out 4;have hfz23_5:=blk_frozen BK265.out 5;have hfz23_6:=blk_frozen BK265.out 6;have hfz23_7:=blk_frozen BK265.out 7)|(go_at_call 92;(with_reducible refine (spec_l1In.calls a0_5 0 7 true _ A14.out).mono ?_);rintro e w' ⟨rfl,⟨nd,rfl⟩⟩)|(go_at_call 92;(with_reducible refine (spec_l1In.calls a0_6 0 (l0_3.length:Int) true _ A16.out).mono ?_);rintro e w' ⟨rfl,⟨nd,rfl⟩⟩))
                    go_ret
                    exact ⟨by first|rfl|(simp [errW_none,errW_some]<;>rfl)|(simp [*,errW_none,errW_some]<;>rfl),by repeat (first|(with_reducible first|exact HB.out|apply below_alloc|apply pw_below_drewN|apply below_drew1|refine below_set ?_ GE265.out)|exact HB.out)⟩
                  · rw [if_neg c18] at H
                    have c18b0:(a0_5==3)=false:=beq_eq_false_iff_ne.mpr c18
                    have c18b1:(a0_5 != 3)=true:=bne_iff_ne.mpr c18
                    obtain rfl:=Option.some.inj H
                    have hcz24_0:wr.cell? ⟨gb265,0,none⟩=some (.string a0_0):=(blk_cell BK265.out 0).trans rfl
                    have hcz24_1:wr.cell? ⟨gb265,1,none⟩=some (.string a0_1):=(blk_cell BK265.out 1).trans rfl
                    have hcz24_2:wr.cell? ⟨gb265,2,none⟩=some (.string a0_2):=(blk_cell BK265.out 2).trans rfl
                    have hcz24_3:wr.cell? ⟨gb265,3,none⟩=some (.slice A0_3 l0_3.length c0_3):=(blk_cell BK265.out 3).trans rfl
                    have hcz24_4:wr.cell? ⟨gb265,4,none⟩=some (.slice A0_4 l0_4.length c0_4):=(blk_cell BK265.out 4).trans rfl
                    have hcz24_5:wr.cell? ⟨gb265,5,none⟩=some (.int .i64 a0_5):=(blk_cell BK265.out 5).trans rfl
                    have hcz24_6:wr.cell? ⟨gb265,6,none⟩=some (.int .i64 a0_6):=(blk_cell BK265.out 6).trans rfl
                    have hcz24_7:wr.cell? ⟨gb265,7,none⟩=some (.slice A0_7 l0_7.length c0_7):=(blk_cell BK265.out 7).trans rfl
                    have hfz24_0:=blk_frozen BK265.out 0
                    have hfz24_1:=blk_frozen BK265.out 1
                    have hfz24_2:=blk_frozen BK265.out 2
                    have hfz24_3:=blk_frozen BK265.out 3
                    have hfz24_4:=blk_frozen BK265.out 4
                    have hfz24_5:=blk_frozen BK265.out 5
                    have hfz24_6:=blk_frozen BK265.out 6
                    have hfz24_7:=blk_frozen BK265.out 7
                    go_wp2_with (first|((with_reducible refine gate_callee (f:=43) rfl ?_);refine goesL_ (some 20) rfl rfl Tryd.func43 (by kernel_rfl) rfl #[.agg #[.string a0_1,.string a0_2,.slice A0_3 l0_3.length c0_3,.slice A0_4 l0_4.length c0_4]] rfl (by (try simp only [List.map_toArray,List.map_cons,List.map_nil]);first|done|rfl|(simp only [List.length_drop,List.length_take];rfl)) ?_;(with_reducible refine (spec_l2Ok.calls k1 a0_1 a0_2 _ _ l0_3 _ _ l0_4 true _ ?side1 ?side2 ?side3 ?side4 A9.out).mono ?_);(case side1=>repeat (first|exact (Kd.C_below HR0_3.out HB.out)|(with_reducible refine Kd.C_alloc ?_ _)|(with_reducible refine Kd.C_drewN ?_ _)|(with_reducible refine Kd.C_drew ?_)));(case side2=>exact HC0_3.out);(case side3=>repeat (first|exact (Kd.C_below HR0_4.out HB.out)|(with_reducible refine Kd.C_alloc ?_ _)|(with_reducible refine Kd.C_drewN ?_ _)|(with_reducible refine Kd.C_drew ?_)));(case side4=>exact HC0_4.out);rintro e w25 ⟨rfl,hb⟩;refine ⟨_,rfl,?_⟩;have n0_:=Aside0.mk (blk_below (g:=gb265) (o:=.cells #[.string a0_0,.string a0_1,.string a0_2,.slice A0_3 l0_3.length c0_3,.slice A0_4 l0_4.length c0_4,.int .i64 a0_5,.int .i64 a0_6,.slice A0_7 l0_7.length c0_7] 67 (0,0)) (by (with_reducible repeat (first|refine blk_drewN ?_ _|refine blk_drew ?_|refine blk_alloc ?_ _));exact BK265.out) hb);have n1_:=Aside0.mk (below_step (by repeat (first|(with_reducible first|exact HB.out|apply below_alloc|apply pw_below_drewN|apply below_drew1|refine below_set ?_ GE265.out)|exact HB.out)) hb);clear BK265;clear HB;have BK265:=n0_;have HB:=n1_;clear n0_ n1_;(try clear hb);(try clear hb2);(try clear hk);(try clear hi);have hcz26_0:w25.cell? ⟨gb265,0,none⟩=some (.string a0_0):=(blk_cell BK265.out 0).trans rfl;have hcz26_1:w25.cell? ⟨gb265,1,none⟩=some (.string a0_1):=(blk_cell BK265.out 1).trans rfl;have hcz26_2:w25.cell? ⟨gb265,2,none⟩=some (.string a0_2):=(blk_cell BK265.out 2).trans rfl;have hcz26_3:w25.cell? ⟨gb265,3,none⟩=some (.slice A0_3 l0_3.length c0_3):=(blk_cell BK265.out 3).trans rfl;have hcz26_4:w25.cell? ⟨gb265,4,none⟩=some (.slice A0_4 l0_4.length c0_4):=(blk_cell BK265.out 4).trans rfl;have hcz26_5:w25.cell? ⟨gb265,5,none⟩=some (.int .i64 a0_5):=(blk_cell BK265.out 5).trans rfl;have hcz26_6:w25.cell? ⟨gb265,6,none⟩=some (.int .i64 a0_6):=(blk_cell BK265.out 6).trans rfl;have hcz26_7:w25.cell? ⟨gb265,7,none⟩=some (.slice A0_7 l0_7.length c0_7):=(blk_cell BK265.out 7).trans rfl;have hfz26_0:=blk_frozen BK265.out 0;have hfz26_1:=blk_frozen BK265.out 1;have hfz26_2:=blk_frozen BK265.out 2;have hfz26_3:=blk_frozen BK265.out 3;have hfz26_4:=blk_frozen BK265.out 4;have hfz26_5:=blk_frozen BK265.out 5;have hfz26_6:=blk_frozen BK265.out 6;have hfz26_7:=blk_frozen BK265.out 7)|(go_at_call 58;(with_reducible refine (spec_l1Domain.calls k1 a0_0 true _ A11.out).mono ?_);rintro e w27 ⟨rfl,hb⟩;have n0_:=Aside0.mk (blk_below (g:=gb265) (o:=.cells #[.string a0_0,.string a0_1,.string a0_2,.slice A0_3 l0_3.length c0_3,.slice A0_4 l0_4.length c0_4,.int .i64 a0_5,.int .i64 a0_6,.slice A0_7 l0_7.length c0_7] 67 (0,0)) (by (with_reducible repeat (first|refine blk_drewN ?_ _|refine blk_drew ?_|refine blk_alloc ?_ _));exact BK265.out) hb);have n1_:=Aside0.mk (below_step (by repeat (first|(with_reducible first|exact HB.out|apply below_alloc|apply pw_below_drewN|apply below_drew1|refine below_set ?_ GE265.out)|exact HB.out)) hb);clear BK265;clear HB;have BK265:=n0_;have HB:=n1_;clear n0_ n1_;(try clear hb);(try clear hb2);(try clear hk);(try clear hi);have hcz28_0:w27.cell? ⟨gb265,0,none⟩=some (.string a0_0):=(blk_cell BK265.out 0).trans rfl;have hcz28_1:w27.cell? ⟨gb265,1,none⟩=some (.string a0_1):=(blk_cell BK265.out 1).trans rfl;have hcz28_2:w27.cell? ⟨gb265,2,none⟩=some (.string a0_2):=(blk_cell BK265.out 2).trans rfl;have hcz28_3:w27.cell? ⟨gb265,3,none⟩=some (.slice A0_3 l0_3.length c0_3):=(blk_cell BK265.out 3).trans rfl;have hcz28_4:w27.cell? ⟨gb265,4,none⟩=some (.slice A0_4 l0_4.length c0_4):=(blk_cell BK265.out 4).trans rfl;have hcz28_5:w27.cell? ⟨gb265,5,none⟩=some (.int .i64 a0_5):=(blk_cell BK265.out 5).trans rfl;have hcz28_6:w27.cell? ⟨gb265,6,none⟩=some (.int .i64 a0_6):=(blk_cell BK265.out 6).trans rfl;have hcz28_7:w27.cell? ⟨gb265,7,none⟩=some (.slice A0_7 l0_7.length c0_7):=(blk_cell BK265.out 7).trans rfl;have hfz28_0:=blk_frozen BK265.out 0;have hfz28_1:=blk_frozen BK265.out 1;have hfz28_2:=blk_frozen BK265.out 2;have hfz28_3:=blk_frozen BK265.out 3;have hfz28_4:=blk_frozen BK265.out 4;have hfz28_5:=blk_frozen BK265.out 5;have hfz28_6:=blk_frozen BK265.out 6;have hfz28_7:=blk_frozen BK265.out 7)|(go_at_call 92;(with_reducible refine (spec_l1In.calls a0_5 0 7 true _ A14.out).mono ?_);rintro e w' ⟨rfl,⟨nd,rfl⟩⟩)|(go_at_call 92;(with_reducible refine (spec_l1In.calls a0_6 0 (l0_3.length:Int) true _ A16.out).mono ?_);rintro e w' ⟨rfl,⟨nd,rfl⟩⟩))
                    go_ret
                    exact ⟨by first|rfl|(simp [errW_none,errW_some]<;>rfl)|(simp [*,errW_none,errW_some]<;>rfl),by repeat (first|(with_reducible first|exact HB.out|apply below_alloc|apply pw_below_drewN|apply below_drew1|refine below_set ?_ GE265.out)|exact HB.out)⟩
                · replace c17:=Bool.eq_false_iff.mpr c17
                  subst c17
                  have H1:(some false)=some r:=by rw [if_neg (show ¬ (false=true) by decide)] at H;exact H
                  clear H
                  have H:=H1
                  clear H1
                  obtain rfl:=Option.some.inj H
                  have hcz29_0:wr.cell? ⟨gb265,0,none⟩=some (.string a0_0):=(blk_cell BK265.out 0).trans rfl
                  have hcz29_1:wr.cell? ⟨gb265,1,none⟩=some (.string a0_1):=(blk_cell BK265.out 1).trans rfl
                  have hcz29_2:wr.cell? ⟨gb265,2,none⟩=some (.string a0_2):=(blk_cell BK265.out 2).trans rfl
                  have hcz29_3:wr.cell? ⟨gb265,3,none⟩=some (.slice A0_3 l0_3.length c0_3):=(blk_cell BK265.out 3).trans rfl
                  have hcz29_4:wr.cell? ⟨gb265,4,none⟩=some (.slice A0_4 l0_4.length c0_4):=(blk_cell BK265.out 4).trans rfl
                  have hcz29_5:wr.cell? ⟨gb265,5,none⟩=some (.int .i64 a0_5):=(blk_cell BK265.out 5).trans rfl
                  have hcz29_6:wr.cell? ⟨gb265,6,none⟩=some (.int .i64 a0_6):=(blk_cell BK265.out 6).trans rfl
                  have hcz29_7:wr.cell? ⟨gb265,7,none⟩=some (.slice A0_7 l0_7.length c0_7):=(blk_cell BK265.out 7).trans rfl
                  have hfz29_0:=blk_frozen BK265.out 0
                  have hfz29_1:=blk_frozen BK265.out 1
                  have hfz29_2:=blk_frozen BK265.out 2
                  have hfz29_3:=blk_frozen BK265.out 3
                  have hfz29_4:=blk_frozen BK265.out 4
                  have hfz29_5:=blk_frozen BK265.out 5
                  have hfz29_6:=blk_frozen BK265.out 6
                  have hfz29_7:=blk_frozen BK265.out 7
                  go_wp2_with (first|((with_reducible refine gate_callee (f:=43) rfl ?_);refine goesL_ (some 20) rfl rfl Tryd.func43 (by kernel_rfl) rfl #[.agg #[.string a0_1,.string a0_2,.slice A0_3 l0_3.length c0_3,.slice A0_4 l0_4.length c0_4]] rfl (by (try simp only [List.map_toArray,List.map_cons,List.map_nil]);first|done|rfl|(simp only [List.length_drop,List.length_take];rfl)) ?_;(with_reducible refine (spec_l2Ok.calls k1 a0_1 a0_2 _ _ l0_3 _ _ l0_4 true _ ?side1 ?side2 ?side3 ?side4 A9.out).mono ?_);(case side1=>repeat (first|exact (Kd.C_below HR0_3.out HB.out)|(with_reducible refine Kd.C_alloc ?_ _)|(with_reducible refine Kd.C_drewN ?_ _)|(with_reducible refine Kd.C_drew ?_)));(case side2=>exact HC0_3.out);(case side3=>repeat (first|exact (Kd.C_below HR0_4.out HB.out)|(with_reducible refine Kd.C_alloc ?_ _)|(with_reducible refine Kd.C_drewN ?_ _)|(with_reducible refine Kd.C_drew ?_)));(case side4=>exact HC0_4.out);rintro e w30 ⟨rfl,hb⟩;refine ⟨_,rfl,?_⟩;have n0_:=Aside0.mk (blk_below (g:=gb265) (o:=.cells #[.string a0_0,.string a0_1,.string a0_2,.slice A0_3 l0_3.length c0_3,.slice A0_4 l0_4.length c0_4,.int .i64 a0_5,.int .i64 a0_6,.slice A0_7 l0_7.length c0_7] 67 (0,0)) (by (with_reducible repeat (first|refine blk_drewN ?_ _|refine blk_drew ?_|refine blk_alloc ?_ _));exact BK265.out) hb);have n1_:=Aside0.mk (below_step (by repeat (first|(with_reducible first|exact HB.out|apply below_alloc|apply pw_below_drewN|apply below_drew1|refine below_set ?_ GE265.out)|exact HB.out)) hb);clear BK265;clear HB;have BK265:=n0_;have HB:=n1_;clear n0_ n1_;(try clear hb);(try clear hb2);(try clear hk);(try clear hi);have hcz31_0:w30.cell? ⟨gb265,0,none⟩=some (.string a0_0):=(blk_cell BK265.out 0).trans rfl;have hcz31_1:w30.cell? ⟨gb265,1,none⟩=some (.string a0_1):=(blk_cell BK265.out 1).trans rfl;have hcz31_2:w30.cell? ⟨gb265,2,none⟩=some (.string a0_2):=(blk_cell BK265.out 2).trans rfl;have hcz31_3:w30.cell? ⟨gb265,3,none⟩=some (.slice A0_3 l0_3.length c0_3):=(blk_cell BK265.out 3).trans rfl;have hcz31_4:w30.cell? ⟨gb265,4,none⟩=some (.slice A0_4 l0_4.length c0_4):=(blk_cell BK265.out 4).trans rfl;have hcz31_5:w30.cell? ⟨gb265,5,none⟩=some (.int .i64 a0_5):=(blk_cell BK265.out 5).trans rfl;have hcz31_6:w30.cell? ⟨gb265,6,none⟩=some (.int .i64 a0_6):=(blk_cell BK265.out 6).trans rfl;have hcz31_7:w30.cell? ⟨gb265,7,none⟩=some (.slice A0_7 l0_7.length c0_7):=(blk_cell BK265.out 7).trans rfl;have hfz31_0:=blk_frozen BK265.out 0;have hfz31_1:=blk_frozen BK265.out 1;have hfz31_2:=blk_frozen BK265.out 2;have hfz31_3:=blk_frozen BK265.out 3;have hfz31_4:=blk_frozen BK265.out 4;have hfz31_5:=blk_frozen BK265.out 5;have hfz31_6:=blk_frozen BK265.out 6;have hfz31_7:=blk_frozen BK265.out 7)|(go_at_call 58;(with_reducible refine (spec_l1Domain.calls k1 a0_0 true _ A11.out).mono ?_);rintro e w32 ⟨rfl,hb⟩;have n0_:=Aside0.mk (blk_below (g:=gb265) (o:=.cells #[.string a0_0,.string a0_1,.string a0_2,.slice A0_3 l0_3.length c0_3,.slice A0_4 l0_4.length c0_4,.int .i64 a0_5,.int .i64 a0_6,.slice A0_7 l0_7.length c0_7] 67 (0,0)) (by (with_reducible repeat (first|refine blk_drewN ?_ _|refine blk_drew ?_|refine blk_alloc ?_ _));exact BK265.out) hb);have n1_:=Aside0.mk (below_step (by repeat (first|(with_reducible first|exact HB.out|apply below_alloc|apply pw_below_drewN|apply below_drew1|refine below_set ?_ GE265.out)|exact HB.out)) hb);clear BK265;clear HB;have BK265:=n0_;have HB:=n1_;clear n0_ n1_;(try clear hb);(try clear hb2);(try clear hk);(try clear hi);have hcz33_0:w32.cell? ⟨gb265,0,none⟩=some (.string a0_0):=(blk_cell BK265.out 0).trans rfl;have hcz33_1:w32.cell? ⟨gb265,1,none⟩=some (.string a0_1):=(blk_cell BK265.out 1).trans rfl;have hcz33_2:w32.cell? ⟨gb265,2,none⟩=some (.string a0_2):=(blk_cell BK265.out 2).trans rfl;have hcz33_3:w32.cell? ⟨gb265,3,none⟩=some (.slice A0_3 l0_3.length c0_3):=(blk_cell BK265.out 3).trans rfl;have hcz33_4:w32.cell? ⟨gb265,4,none⟩=some (.slice A0_4 l0_4.length c0_4):=(blk_cell BK265.out 4).trans rfl;have hcz33_5:w32.cell? ⟨gb265,5,none⟩=some (.int .i64 a0_5):=(blk_cell BK265.out 5).trans rfl;have hcz33_6:w32.cell? ⟨gb265,6,none⟩=some (.int .i64 a0_6):=(blk_cell BK265.out 6).trans rfl;have hcz33_7:w32.cell? ⟨gb265,7,none⟩=some (.slice A0_7 l0_7.length c0_7):=(blk_cell BK265.out 7).trans rfl;have hfz33_0:=blk_frozen BK265.out 0;have hfz33_1:=blk_frozen BK265.out 1;have hfz33_2:=blk_frozen BK265.out 2;have hfz33_3:=blk_frozen BK265.out 3;have hfz33_4:=blk_frozen BK265.out 4;have hfz33_5:=blk_frozen BK265.out 5;have hfz33_6:=blk_frozen BK265.out 6;have hfz33_7:=blk_frozen BK265.out 7)|(go_at_call 92;(with_reducible refine (spec_l1In.calls a0_5 0 7 true _ A14.out).mono ?_);rintro e w' ⟨rfl,⟨nd,rfl⟩⟩)|(go_at_call 92;(with_reducible refine (spec_l1In.calls a0_6 0 (l0_3.length:Int) false _ A16.out).mono ?_);rintro e w' ⟨rfl,⟨nd,rfl⟩⟩))
                  go_ret
                  exact ⟨by first|rfl|(simp [errW_none,errW_some]<;>rfl)|(simp [*,errW_none,errW_some]<;>rfl),by repeat (first|(with_reducible first|exact HB.out|apply below_alloc|apply pw_below_drewN|apply below_drew1|refine below_set ?_ GE265.out)|exact HB.out)⟩
              · replace c15:=Bool.eq_false_iff.mpr c15
                subst c15
                have H1:(some false)=some r:=by rw [if_neg (show ¬ (false=true) by decide)] at H;exact H
                clear H
                have H:=H1
                clear H1
                obtain rfl:=Option.some.inj H
                have hcz34_0:wr.cell? ⟨gb265,0,none⟩=some (.string a0_0):=(blk_cell BK265.out 0).trans rfl
                have hcz34_1:wr.cell? ⟨gb265,1,none⟩=some (.string a0_1):=(blk_cell BK265.out 1).trans rfl
                have hcz34_2:wr.cell? ⟨gb265,2,none⟩=some (.string a0_2):=(blk_cell BK265.out 2).trans rfl
                have hcz34_3:wr.cell? ⟨gb265,3,none⟩=some (.slice A0_3 l0_3.length c0_3):=(blk_cell BK265.out 3).trans rfl
                have hcz34_4:wr.cell? ⟨gb265,4,none⟩=some (.slice A0_4 l0_4.length c0_4):=(blk_cell BK265.out 4).trans rfl
                have hcz34_5:wr.cell? ⟨gb265,5,none⟩=some (.int .i64 a0_5):=(blk_cell BK265.out 5).trans rfl
                have hcz34_6:wr.cell? ⟨gb265,6,none⟩=some (.int .i64 a0_6):=(blk_cell BK265.out 6).trans rfl
                have hcz34_7:wr.cell? ⟨gb265,7,none⟩=some (.slice A0_7 l0_7.length c0_7):=(blk_cell BK265.out 7).trans rfl
                have hfz34_0:=blk_frozen BK265.out 0
                have hfz34_1:=blk_frozen BK265.out 1
                have hfz34_2:=blk_frozen BK265.out 2
                have hfz34_3:=blk_frozen BK265.out 3
                have hfz34_4:=blk_frozen BK265.out 4
                have hfz34_5:=blk_frozen BK265.out 5
                have hfz34_6:=blk_frozen BK265.out 6
                have hfz34_7:=blk_frozen BK265.out 7
                go_wp2_with (first|((with_reducible refine gate_callee (f:=43) rfl ?_);refine goesL_ (some 20) rfl rfl Tryd.func43 (by kernel_rfl) rfl #[.agg #[.string a0_1,.string a0_2,.slice A0_3 l0_3.length c0_3,.slice A0_4 l0_4.length c0_4]] rfl (by (try simp only [List.map_toArray,List.map_cons,List.map_nil]);first|done|rfl|(simp only [List.length_drop,List.length_take];rfl)) ?_;(with_reducible refine (spec_l2Ok.calls k1 a0_1 a0_2 _ _ l0_3 _ _ l0_4 true _ ?side1 ?side2 ?side3 ?side4 A9.out).mono ?_);(case side1=>repeat (first|exact (Kd.C_below HR0_3.out HB.out)|(with_reducible refine Kd.C_alloc ?_ _)|(with_reducible refine Kd.C_drewN ?_ _)|(with_reducible refine Kd.C_drew ?_)));(case side2=>exact HC0_3.out);(case side3=>repeat (first|exact (Kd.C_below HR0_4.out HB.out)|(with_reducible refine Kd.C_alloc ?_ _)|(with_reducible refine Kd.C_drewN ?_ _)|(with_reducible refine Kd.C_drew ?_)));(case side4=>exact HC0_4.out);rintro e w35 ⟨rfl,hb⟩;refine ⟨_,rfl,?_⟩;have n0_:=Aside0.mk (blk_below (g:=gb265) (o:=.cells #[.string a0_0,.string a0_1,.string a0_2,.slice A0_3 l0_3.length c0_3,.slice A0_4 l0_4.length c0_4,.int .i64 a0_5,.int .i64 a0_6,.slice A0_7 l0_7.length c0_7] 67 (0,0)) (by (with_reducible repeat (first|refine blk_drewN ?_ _|refine blk_drew ?_|refine blk_alloc ?_ _));exact BK265.out) hb);have n1_:=Aside0.mk (below_step (by repeat (first|(with_reducible first|exact HB.out|apply below_alloc|apply pw_below_drewN|apply below_drew1|refine below_set ?_ GE265.out)|exact HB.out)) hb);clear BK265;clear HB;have BK265:=n0_;have HB:=n1_;clear n0_ n1_;(try clear hb);(try clear hb2);(try clear hk);(try clear hi);have hcz36_0:w35.cell? ⟨gb265,0,none⟩=some (.string a0_0):=(blk_cell BK265.out 0).trans rfl;have hcz36_1:w35.cell? ⟨gb265,1,none⟩=some (.string a0_1):=(blk_cell BK265.out 1).trans rfl;have hcz36_2:w35.cell? ⟨gb265,2,none⟩=some (.string a0_2):=(blk_cell BK265.out 2).trans rfl;have hcz36_3:w35.cell? ⟨gb265,3,none⟩=some (.slice A0_3 l0_3.length c0_3):=(blk_cell BK265.out 3).trans rfl;have hcz36_4:w35.cell? ⟨gb265,4,none⟩=some (.slice A0_4 l0_4.length c0_4):=(blk_cell BK265.out 4).trans rfl;have hcz36_5:w35.cell? ⟨gb265,5,none⟩=some (.int .i64 a0_5):=(blk_cell BK265.out 5).trans rfl;have hcz36_6:w35.cell? ⟨gb265,6,none⟩=some (.int .i64 a0_6):=(blk_cell BK265.out 6).trans rfl;have hcz36_7:w35.cell? ⟨gb265,7,none⟩=some (.slice A0_7 l0_7.length c0_7):=(blk_cell BK265.out 7).trans rfl;have hfz36_0:=blk_frozen BK265.out 0;have hfz36_1:=blk_frozen BK265.out 1;have hfz36_2:=blk_frozen BK265.out 2;have hfz36_3:=blk_frozen BK265.out 3;have hfz36_4:=blk_frozen BK265.out 4;have hfz36_5:=blk_frozen BK265.out 5;have hfz36_6:=blk_frozen BK265.out 6;have hfz36_7:=blk_frozen BK265.out 7)|(go_at_call 58;(with_reducible refine (spec_l1Domain.calls k1 a0_0 true _ A11.out).mono ?_);rintro e w37 ⟨rfl,hb⟩;have n0_:=Aside0.mk (blk_below (g:=gb265) (o:=.cells #[.string a0_0,.string a0_1,.string a0_2,.slice A0_3 l0_3.length c0_3,.slice A0_4 l0_4.length c0_4,.int .i64 a0_5,.int .i64 a0_6,.slice A0_7 l0_7.length c0_7] 67 (0,0)) (by (with_reducible repeat (first|refine blk_drewN ?_ _|refine blk_drew ?_|refine blk_alloc ?_ _));exact BK265.out) hb);have n1_:=Aside0.mk (below_step (by repeat (first|(with_reducible first|exact HB.out|apply below_alloc|apply pw_below_drewN|apply below_drew1|refine below_set ?_ GE265.out)|exact HB.out)) hb);clear BK265;clear HB;have BK265:=n0_;have HB:=n1_;clear n0_ n1_;(try clear hb);(try clear hb2);(try clear hk);(try clear hi);have hcz38_0:w37.cell? ⟨gb265,0,none⟩=some (.string a0_0):=(blk_cell BK265.out 0).trans rfl;have hcz38_1:w37.cell? ⟨gb265,1,none⟩=some (.string a0_1):=(blk_cell BK265.out 1).trans rfl;have hcz38_2:w37.cell? ⟨gb265,2,none⟩=some (.string a0_2):=(blk_cell BK265.out 2).trans rfl;have hcz38_3:w37.cell? ⟨gb265,3,none⟩=some (.slice A0_3 l0_3.length c0_3):=(blk_cell BK265.out 3).trans rfl;have hcz38_4:w37.cell? ⟨gb265,4,none⟩=some (.slice A0_4 l0_4.length c0_4):=(blk_cell BK265.out 4).trans rfl;have hcz38_5:w37.cell? ⟨gb265,5,none⟩=some (.int .i64 a0_5):=(blk_cell BK265.out 5).trans rfl;have hcz38_6:w37.cell? ⟨gb265,6,none⟩=some (.int .i64 a0_6):=(blk_cell BK265.out 6).trans rfl;have hcz38_7:w37.cell? ⟨gb265,7,none⟩=some (.slice A0_7 l0_7.length c0_7):=(blk_cell BK265.out 7).trans rfl;have hfz38_0:=blk_frozen BK265.out 0;have hfz38_1:=blk_frozen BK265.out 1;have hfz38_2:=blk_frozen BK265.out 2;have hfz38_3:=blk_frozen BK265.out 3;have hfz38_4:=blk_frozen BK265.out 4;have hfz38_5:=blk_frozen BK265.out 5;have hfz38_6:=blk_frozen BK265.out 6;have hfz38_7:=blk_frozen BK265.out 7)|(go_at_call 92;(with_reducible refine (spec_l1In.calls a0_5 0 7 false _ A14.out).mono ?_);rintro e w' ⟨rfl,⟨nd,rfl⟩⟩))
                go_ret
                exact ⟨by first|rfl|(simp [errW_none,errW_some]<;>rfl)|(simp [*,errW_none,errW_some]<;>rfl),by repeat (first|(with_reducible first|exact HB.out|apply below_alloc|apply pw_below_drewN|apply below_drew1|refine below_set ?_ GE265.out)|exact HB.out)⟩
            · rw [if_neg c13] at H
              have c13b0:((l0_7.length:Int)==(l0_3.length:Int))=false:=beq_eq_false_iff_ne.mpr c13
              have c13b1:((l0_7.length:Int) != (l0_3.length:Int))=true:=bne_iff_ne.mpr c13
              have c13b2:(l0_7.length==l0_3.length)=false:=by first|simpa using c13|(simp at c13 ⊢;omega)
              obtain rfl:=Option.some.inj H
              have hcz39_0:wr.cell? ⟨gb265,0,none⟩=some (.string a0_0):=(blk_cell BK265.out 0).trans rfl
              have hcz39_1:wr.cell? ⟨gb265,1,none⟩=some (.string a0_1):=(blk_cell BK265.out 1).trans rfl
              have hcz39_2:wr.cell? ⟨gb265,2,none⟩=some (.string a0_2):=(blk_cell BK265.out 2).trans rfl
              have hcz39_3:wr.cell? ⟨gb265,3,none⟩=some (.slice A0_3 l0_3.length c0_3):=(blk_cell BK265.out 3).trans rfl
              have hcz39_4:wr.cell? ⟨gb265,4,none⟩=some (.slice A0_4 l0_4.length c0_4):=(blk_cell BK265.out 4).trans rfl
              have hcz39_5:wr.cell? ⟨gb265,5,none⟩=some (.int .i64 a0_5):=(blk_cell BK265.out 5).trans rfl
              have hcz39_6:wr.cell? ⟨gb265,6,none⟩=some (.int .i64 a0_6):=(blk_cell BK265.out 6).trans rfl
              have hcz39_7:wr.cell? ⟨gb265,7,none⟩=some (.slice A0_7 l0_7.length c0_7):=(blk_cell BK265.out 7).trans rfl
              have hfz39_0:=blk_frozen BK265.out 0
              have hfz39_1:=blk_frozen BK265.out 1
              have hfz39_2:=blk_frozen BK265.out 2
              have hfz39_3:=blk_frozen BK265.out 3
              have hfz39_4:=blk_frozen BK265.out 4
              have hfz39_5:=blk_frozen BK265.out 5
              have hfz39_6:=blk_frozen BK265.out 6
              have hfz39_7:=blk_frozen BK265.out 7
              go_wp2_with (first|((with_reducible refine gate_callee (f:=43) rfl ?_);refine goesL_ (some 20) rfl rfl Tryd.func43 (by kernel_rfl) rfl #[.agg #[.string a0_1,.string a0_2,.slice A0_3 l0_3.length c0_3,.slice A0_4 l0_4.length c0_4]] rfl (by (try simp only [List.map_toArray,List.map_cons,List.map_nil]);first|done|rfl|(simp only [List.length_drop,List.length_take];rfl)) ?_;(with_reducible refine (spec_l2Ok.calls k1 a0_1 a0_2 _ _ l0_3 _ _ l0_4 true _ ?side1 ?side2 ?side3 ?side4 A9.out).mono ?_);(case side1=>repeat (first|exact (Kd.C_below HR0_3.out HB.out)|(with_reducible refine Kd.C_alloc ?_ _)|(with_reducible refine Kd.C_drewN ?_ _)|(with_reducible refine Kd.C_drew ?_)));(case side2=>exact HC0_3.out);(case side3=>repeat (first|exact (Kd.C_below HR0_4.out HB.out)|(with_reducible refine Kd.C_alloc ?_ _)|(with_reducible refine Kd.C_drewN ?_ _)|(with_reducible refine Kd.C_drew ?_)));(case side4=>exact HC0_4.out);rintro e w40 ⟨rfl,hb⟩;refine ⟨_,rfl,?_⟩;have n0_:=Aside0.mk (blk_below (g:=gb265) (o:=.cells #[.string a0_0,.string a0_1,.string a0_2,.slice A0_3 l0_3.length c0_3,.slice A0_4 l0_4.length c0_4,.int .i64 a0_5,.int .i64 a0_6,.slice A0_7 l0_7.length c0_7] 67 (0,0)) (by (with_reducible repeat (first|refine blk_drewN ?_ _|refine blk_drew ?_|refine blk_alloc ?_ _));exact BK265.out) hb);have n1_:=Aside0.mk (below_step (by repeat (first|(with_reducible first|exact HB.out|apply below_alloc|apply pw_below_drewN|apply below_drew1|refine below_set ?_ GE265.out)|exact HB.out)) hb);clear BK265;clear HB;have BK265:=n0_;have HB:=n1_;clear n0_ n1_;(try clear hb);(try clear hb2);(try clear hk);(try clear hi);have hcz41_0:w40.cell? ⟨gb265,0,none⟩=some (.string a0_0):=(blk_cell BK265.out 0).trans rfl;have hcz41_1:w40.cell? ⟨gb265,1,none⟩=some (.string a0_1):=(blk_cell BK265.out 1).trans rfl;have hcz41_2:w40.cell? ⟨gb265,2,none⟩=some (.string a0_2):=(blk_cell BK265.out 2).trans rfl;have hcz41_3:w40.cell? ⟨gb265,3,none⟩=some (.slice A0_3 l0_3.length c0_3):=(blk_cell BK265.out 3).trans rfl;have hcz41_4:w40.cell? ⟨gb265,4,none⟩=some (.slice A0_4 l0_4.length c0_4):=(blk_cell BK265.out 4).trans rfl;have hcz41_5:w40.cell? ⟨gb265,5,none⟩=some (.int .i64 a0_5):=(blk_cell BK265.out 5).trans rfl;have hcz41_6:w40.cell? ⟨gb265,6,none⟩=some (.int .i64 a0_6):=(blk_cell BK265.out 6).trans rfl;have hcz41_7:w40.cell? ⟨gb265,7,none⟩=some (.slice A0_7 l0_7.length c0_7):=(blk_cell BK265.out 7).trans rfl;have hfz41_0:=blk_frozen BK265.out 0;have hfz41_1:=blk_frozen BK265.out 1;have hfz41_2:=blk_frozen BK265.out 2;have hfz41_3:=blk_frozen BK265.out 3;have hfz41_4:=blk_frozen BK265.out 4;have hfz41_5:=blk_frozen BK265.out 5;have hfz41_6:=blk_frozen BK265.out 6;have hfz41_7:=blk_frozen BK265.out 7)|(go_at_call 58;(with_reducible refine (spec_l1Domain.calls k1 a0_0 true _ A11.out).mono ?_);rintro e w42 ⟨rfl,hb⟩;have n0_:=Aside0.mk (blk_below (g:=gb265) (o:=.cells #[.string a0_0,.string a0_1,.string a0_2,.slice A0_3 l0_3.length c0_3,.slice A0_4 l0_4.length c0_4,.int .i64 a0_5,.int .i64 a0_6,.slice A0_7 l0_7.length c0_7] 67 (0,0)) (by (with_reducible repeat (first|refine blk_drewN ?_ _|refine blk_drew ?_|refine blk_alloc ?_ _));exact BK265.out) hb);have n1_:=Aside0.mk (below_step (by repeat (first|(with_reducible first|exact HB.out|apply below_alloc|apply pw_below_drewN|apply below_drew1|refine below_set ?_ GE265.out)|exact HB.out)) hb);clear BK265;clear HB;have BK265:=n0_;have HB:=n1_;clear n0_ n1_;(try clear hb);(try clear hb2);(try clear hk);(try clear hi);have hcz43_0:w42.cell? ⟨gb265,0,none⟩=some (.string a0_0):=(blk_cell BK265.out 0).trans rfl;have hcz43_1:w42.cell? ⟨gb265,1,none⟩=some (.string a0_1):=(blk_cell BK265.out 1).trans rfl;have hcz43_2:w42.cell? ⟨gb265,2,none⟩=some (.string a0_2):=(blk_cell BK265.out 2).trans rfl;have hcz43_3:w42.cell? ⟨gb265,3,none⟩=some (.slice A0_3 l0_3.length c0_3):=(blk_cell BK265.out 3).trans rfl;have hcz43_4:w42.cell? ⟨gb265,4,none⟩=some (.slice A0_4 l0_4.length c0_4):=(blk_cell BK265.out 4).trans rfl;have hcz43_5:w42.cell? ⟨gb265,5,none⟩=some (.int .i64 a0_5):=(blk_cell BK265.out 5).trans rfl;have hcz43_6:w42.cell? ⟨gb265,6,none⟩=some (.int .i64 a0_6):=(blk_cell BK265.out 6).trans rfl;have hcz43_7:w42.cell? ⟨gb265,7,none⟩=some (.slice A0_7 l0_7.length c0_7):=(blk_cell BK265.out 7).trans rfl;have hfz43_0:=blk_frozen BK265.out 0;have hfz43_1:=blk_frozen BK265.out 1;have hfz43_2:=blk_frozen BK265.out 2;have hfz43_3:=blk_frozen BK265.out 3;have hfz43_4:=blk_frozen BK265.out 4;have hfz43_5:=blk_frozen BK265.out 5;have hfz43_6:=blk_frozen BK265.out 6;have hfz43_7:=blk_frozen BK265.out 7))
              go_ret
              exact ⟨by first|rfl|(simp [errW_none,errW_some]<;>rfl)|(simp [*,errW_none,errW_some]<;>rfl),by repeat (first|(with_reducible first|exact HB.out|apply below_alloc|apply pw_below_drewN|apply below_drew1|refine below_set ?_ GE265.out)|exact HB.out)⟩
          · replace c12:=Bool.eq_false_iff.mpr c12
            subst c12
            have H1:(some false)=some r:=by rw [if_neg (show ¬ (false=true) by decide)] at H;exact H
            clear H
            have H:=H1
            clear H1
            obtain rfl:=Option.some.inj H
            have hcz44_0:wr.cell? ⟨gb265,0,none⟩=some (.string a0_0):=(blk_cell BK265.out 0).trans rfl
            have hcz44_1:wr.cell? ⟨gb265,1,none⟩=some (.string a0_1):=(blk_cell BK265.out 1).trans rfl
            have hcz44_2:wr.cell? ⟨gb265,2,none⟩=some (.string a0_2):=(blk_cell BK265.out 2).trans rfl
            have hcz44_3:wr.cell? ⟨gb265,3,none⟩=some (.slice A0_3 l0_3.length c0_3):=(blk_cell BK265.out 3).trans rfl
            have hcz44_4:wr.cell? ⟨gb265,4,none⟩=some (.slice A0_4 l0_4.length c0_4):=(blk_cell BK265.out 4).trans rfl
            have hcz44_5:wr.cell? ⟨gb265,5,none⟩=some (.int .i64 a0_5):=(blk_cell BK265.out 5).trans rfl
            have hcz44_6:wr.cell? ⟨gb265,6,none⟩=some (.int .i64 a0_6):=(blk_cell BK265.out 6).trans rfl
            have hcz44_7:wr.cell? ⟨gb265,7,none⟩=some (.slice A0_7 l0_7.length c0_7):=(blk_cell BK265.out 7).trans rfl
            have hfz44_0:=blk_frozen BK265.out 0
            have hfz44_1:=blk_frozen BK265.out 1
            have hfz44_2:=blk_frozen BK265.out 2
            have hfz44_3:=blk_frozen BK265.out 3
            have hfz44_4:=blk_frozen BK265.out 4
            have hfz44_5:=blk_frozen BK265.out 5
            have hfz44_6:=blk_frozen BK265.out 6
            have hfz44_7:=blk_frozen BK265.out 7
            go_wp2_with (first|((with_reducible refine gate_callee (f:=43) rfl ?_);refine goesL_ (some 20) rfl rfl Tryd.func43 (by kernel_rfl) rfl #[.agg #[.string a0_1,.string a0_2,.slice A0_3 l0_3.length c0_3,.slice A0_4 l0_4.length c0_4]] rfl (by (try simp only [List.map_toArray,List.map_cons,List.map_nil]);first|done|rfl|(simp only [List.length_drop,List.length_take];rfl)) ?_;(with_reducible refine (spec_l2Ok.calls k1 a0_1 a0_2 _ _ l0_3 _ _ l0_4 true _ ?side1 ?side2 ?side3 ?side4 A9.out).mono ?_);(case side1=>repeat (first|exact (Kd.C_below HR0_3.out HB.out)|(with_reducible refine Kd.C_alloc ?_ _)|(with_reducible refine Kd.C_drewN ?_ _)|(with_reducible refine Kd.C_drew ?_)));(case side2=>exact HC0_3.out);(case side3=>repeat (first|exact (Kd.C_below HR0_4.out HB.out)|(with_reducible refine Kd.C_alloc ?_ _)|(with_reducible refine Kd.C_drewN ?_ _)|(with_reducible refine Kd.C_drew ?_)));(case side4=>exact HC0_4.out);rintro e w45 ⟨rfl,hb⟩;refine ⟨_,rfl,?_⟩;have n0_:=Aside0.mk (blk_below (g:=gb265) (o:=.cells #[.string a0_0,.string a0_1,.string a0_2,.slice A0_3 l0_3.length c0_3,.slice A0_4 l0_4.length c0_4,.int .i64 a0_5,.int .i64 a0_6,.slice A0_7 l0_7.length c0_7] 67 (0,0)) (by (with_reducible repeat (first|refine blk_drewN ?_ _|refine blk_drew ?_|refine blk_alloc ?_ _));exact BK265.out) hb);have n1_:=Aside0.mk (below_step (by repeat (first|(with_reducible first|exact HB.out|apply below_alloc|apply pw_below_drewN|apply below_drew1|refine below_set ?_ GE265.out)|exact HB.out)) hb);clear BK265;clear HB;have BK265:=n0_;have HB:=n1_;clear n0_ n1_;(try clear hb);(try clear hb2);(try clear hk);(try clear hi);have hcz46_0:w45.cell? ⟨gb265,0,none⟩=some (.string a0_0):=(blk_cell BK265.out 0).trans rfl;have hcz46_1:w45.cell? ⟨gb265,1,none⟩=some (.string a0_1):=(blk_cell BK265.out 1).trans rfl;have hcz46_2:w45.cell? ⟨gb265,2,none⟩=some (.string a0_2):=(blk_cell BK265.out 2).trans rfl;have hcz46_3:w45.cell? ⟨gb265,3,none⟩=some (.slice A0_3 l0_3.length c0_3):=(blk_cell BK265.out 3).trans rfl;have hcz46_4:w45.cell? ⟨gb265,4,none⟩=some (.slice A0_4 l0_4.length c0_4):=(blk_cell BK265.out 4).trans rfl;have hcz46_5:w45.cell? ⟨gb265,5,none⟩=some (.int .i64 a0_5):=(blk_cell BK265.out 5).trans rfl;have hcz46_6:w45.cell? ⟨gb265,6,none⟩=some (.int .i64 a0_6):=(blk_cell BK265.out 6).trans rfl;have hcz46_7:w45.cell? ⟨gb265,7,none⟩=some (.slice A0_7 l0_7.length c0_7):=(blk_cell BK265.out 7).trans rfl;have hfz46_0:=blk_frozen BK265.out 0;have hfz46_1:=blk_frozen BK265.out 1;have hfz46_2:=blk_frozen BK265.out 2;have hfz46_3:=blk_frozen BK265.out 3;have hfz46_4:=blk_frozen BK265.out 4;have hfz46_5:=blk_frozen BK265.out 5;have hfz46_6:=blk_frozen BK265.out 6;have hfz46_7:=blk_frozen BK265.out 7)|(go_at_call 58;(with_reducible refine (spec_l1Domain.calls k1 a0_0 false _ A11.out).mono ?_);rintro e w47 ⟨rfl,hb⟩;have n0_:=Aside0.mk (blk_below (g:=gb265) (o:=.cells #[.string a0_0,.string a0_1,.string a0_2,.slice A0_3 l0_3.length c0_3,.slice A0_4 l0_4.length c0_4,.int .i64 a0_5,.int .i64 a0_6,.slice A0_7 l0_7.length c0_7] 67 (0,0)) (by (with_reducible repeat (first|refine blk_drewN ?_ _|refine blk_drew ?_|refine blk_alloc ?_ _));exact BK265.out) hb);have n1_:=Aside0.mk (below_step (by repeat (first|(with_reducible first|exact HB.out|apply below_alloc|apply pw_below_drewN|apply below_drew1|refine below_set ?_ GE265.out)|exact HB.out)) hb);clear BK265;clear HB;have BK265:=n0_;have HB:=n1_;clear n0_ n1_;(try clear hb);(try clear hb2);(try clear hk);(try clear hi)))
            go_ret
            exact ⟨by first|rfl|(simp [errW_none,errW_some]<;>rfl)|(simp [*,errW_none,errW_some]<;>rfl),by repeat (first|(with_reducible first|exact HB.out|apply below_alloc|apply pw_below_drewN|apply below_drew1|refine below_set ?_ GE265.out)|exact HB.out)⟩
        · replace c10:=Bool.eq_false_iff.mpr c10
          subst c10
          have H1:(some false)=some r:=by rw [if_neg (show ¬ (false=true) by decide)] at H;exact H
          clear H
          have H:=H1
          clear H1
          obtain rfl:=Option.some.inj H
          have hcz48_0:wr.cell? ⟨gb265,0,none⟩=some (.string a0_0):=(blk_cell BK265.out 0).trans rfl
          have hcz48_1:wr.cell? ⟨gb265,1,none⟩=some (.string a0_1):=(blk_cell BK265.out 1).trans rfl
          have hcz48_2:wr.cell? ⟨gb265,2,none⟩=some (.string a0_2):=(blk_cell BK265.out 2).trans rfl
          have hcz48_3:wr.cell? ⟨gb265,3,none⟩=some (.slice A0_3 l0_3.length c0_3):=(blk_cell BK265.out 3).trans rfl
          have hcz48_4:wr.cell? ⟨gb265,4,none⟩=some (.slice A0_4 l0_4.length c0_4):=(blk_cell BK265.out 4).trans rfl
          have hcz48_5:wr.cell? ⟨gb265,5,none⟩=some (.int .i64 a0_5):=(blk_cell BK265.out 5).trans rfl
          have hcz48_6:wr.cell? ⟨gb265,6,none⟩=some (.int .i64 a0_6):=(blk_cell BK265.out 6).trans rfl
          have hcz48_7:wr.cell? ⟨gb265,7,none⟩=some (.slice A0_7 l0_7.length c0_7):=(blk_cell BK265.out 7).trans rfl
          have hfz48_0:=blk_frozen BK265.out 0
          have hfz48_1:=blk_frozen BK265.out 1
          have hfz48_2:=blk_frozen BK265.out 2
          have hfz48_3:=blk_frozen BK265.out 3
          have hfz48_4:=blk_frozen BK265.out 4
          have hfz48_5:=blk_frozen BK265.out 5
          have hfz48_6:=blk_frozen BK265.out 6
          have hfz48_7:=blk_frozen BK265.out 7
          go_wp2_with (first|((with_reducible refine gate_callee (f:=43) rfl ?_);refine goesL_ (some 20) rfl rfl Tryd.func43 (by kernel_rfl) rfl #[.agg #[.string a0_1,.string a0_2,.slice A0_3 l0_3.length c0_3,.slice A0_4 l0_4.length c0_4]] rfl (by (try simp only [List.map_toArray,List.map_cons,List.map_nil]);first|done|rfl|(simp only [List.length_drop,List.length_take];rfl)) ?_;(with_reducible refine (spec_l2Ok.calls k1 a0_1 a0_2 _ _ l0_3 _ _ l0_4 false _ ?side1 ?side2 ?side3 ?side4 A9.out).mono ?_);(case side1=>repeat (first|exact (Kd.C_below HR0_3.out HB.out)|(with_reducible refine Kd.C_alloc ?_ _)|(with_reducible refine Kd.C_drewN ?_ _)|(with_reducible refine Kd.C_drew ?_)));(case side2=>exact HC0_3.out);(case side3=>repeat (first|exact (Kd.C_below HR0_4.out HB.out)|(with_reducible refine Kd.C_alloc ?_ _)|(with_reducible refine Kd.C_drewN ?_ _)|(with_reducible refine Kd.C_drew ?_)));(case side4=>exact HC0_4.out);rintro e w49 ⟨rfl,hb⟩;refine ⟨_,rfl,?_⟩;have n0_:=Aside0.mk (blk_below (g:=gb265) (o:=.cells #[.string a0_0,.string a0_1,.string a0_2,.slice A0_3 l0_3.length c0_3,.slice A0_4 l0_4.length c0_4,.int .i64 a0_5,.int .i64 a0_6,.slice A0_7 l0_7.length c0_7] 67 (0,0)) (by (with_reducible repeat (first|refine blk_drewN ?_ _|refine blk_drew ?_|refine blk_alloc ?_ _));exact BK265.out) hb);have n1_:=Aside0.mk (below_step (by repeat (first|(with_reducible first|exact HB.out|apply below_alloc|apply pw_below_drewN|apply below_drew1|refine below_set ?_ GE265.out)|exact HB.out)) hb);clear BK265;clear HB;have BK265:=n0_;have HB:=n1_;clear n0_ n1_;(try clear hb);(try clear hb2);(try clear hk);(try clear hi)))
          go_ret
          exact ⟨by first|rfl|(simp [errW_none,errW_some]<;>rfl)|(simp [*,errW_none,errW_some]<;>rfl),by repeat (first|(with_reducible first|exact HB.out|apply below_alloc|apply pw_below_drewN|apply below_drew1|refine below_set ?_ GE265.out)|exact HB.out)⟩
def spec_CliOk.f (k:Nat) (a0_0:ByteArray) (a0_1:ByteArray) (a0_2:ByteArray) (l0_3:List (S30)) (l0_4:List ByteArray) (a0_5:Int) (a0_6:Int) (l0_7:List Int):Option (Bool):=(spec_l4Ok.f k a0_0 a0_1 a0_2 l0_3 l0_4 a0_5 a0_6 l0_7).bind fun t273=>(some t273)
set_option maxHeartbeats 8000000 in
set_option maxRecDepth 100000 in
theorem spec_CliOk.calls (k:Nat) (a0_0:ByteArray) (a0_1:ByteArray) (a0_2:ByteArray) (A0_3:Option Addr) (c0_3:Nat) (l0_3:List (S30)) (A0_4:Option Addr) (c0_4:Nat) (l0_4:List ByteArray) (a0_5:Int) (a0_6:Int) (A0_7:Option Addr) (c0_7:Nat) (l0_7:List Int) (r:Bool) (w:World) (hr0_3:Kd.C k30 w A0_3 l0_3.length l0_3) (hc0_3:l0_3.length≤c0_3) (hr0_4:Kd.C Kd.string w A0_4 l0_4.length l0_4) (hc0_4:l0_4.length≤c0_4) (hr0_7:Kd.C (Kd.int .i64) w A0_7 l0_7.length l0_7) (hc0_7:l0_7.length≤c0_7) (h:spec_CliOk.f k a0_0 a0_1 a0_2 l0_3 l0_4 a0_5 a0_6 l0_7=some r) :
    Calls Tryd.prog 30 #[.agg #[.string a0_0,.string a0_1,.string a0_2,.slice A0_3 l0_3.length c0_3,.slice A0_4 l0_4.length c0_4,.int .i64 a0_5,.int .i64 a0_6,.slice A0_7 l0_7.length c0_7]] w fun e w'=>e=.returned (.bool r)∧Below w.heap.size w w':=by
  have hu67:=Tryd.underlying67
  have HR0_3:=Aside0.mk hr0_3
  have HC0_3:=Aside0.mk hc0_3
  clear hr0_3 hc0_3
  have HR0_4:=Aside0.mk hr0_4
  have HC0_4:=Aside0.mk hc0_4
  clear hr0_4 hc0_4
  have HR0_7:=Aside0.mk hr0_7
  have HC0_7:=Aside0.mk hc0_7
  clear hr0_7 hc0_7
  have HB:=Aside0.mk (Below.refl w.heap.size w)
  have H:((spec_l4Ok.f k a0_0 a0_1 a0_2 l0_3 l0_4 a0_5 a0_6 l0_7).bind fun t273=>(some t273))=some r:=h
  clear h
  replace H:=Option.bind_eq_some_iff.mp H
  obtain ⟨t273,A20,H⟩:=H
  replace H:(some t273)=some r:=H
  have A2:=Aside0.mk A20
  clear A20
  obtain rfl:=Option.some.inj H
  go_enter Tryd.func30,Tryd.ntmps30
  go_wp2_with (first|((with_reducible refine gate_dst (N:=1) rfl ?_);refine box_event ?hg (N:=1) ?hd (cs:=#[.string a0_0,.string a0_1,.string a0_2,.slice A0_3 l0_3.length c0_3,.slice A0_4 l0_4.length c0_4,.int .i64 a0_5,.int .i64 a0_6,.slice A0_7 l0_7.length c0_7]) (t:=67) ?hr ?_;(case hd=>rfl);(case hg=>rfl);(case hr=>first|(go_simp;done)|(go_simp;rfl));intro gb272 hg w3 hbox hb;have n0_:=Aside0.mk (below_step (by repeat (first|(with_reducible first|exact HB.out|apply below_alloc|apply pw_below_drewN|apply below_drew1)|exact HB.out)) hb);have n1_:=Aside0.mk (hbox);have n2_:=Aside0.mk ((by rw [hg];exact (below_size (by repeat (first|(with_reducible first|exact HB.out|apply below_alloc|apply pw_below_drewN|apply below_drew1)|exact HB.out))):w.heap.size≤gb272));have n3_:=Aside0.mk ((by rw [hg];exact (below_size (by repeat (first|(with_reducible first|exact HB.out|apply below_alloc|apply pw_below_drewN|apply below_drew1)|exact HB.out))):w.heap.size≤gb272));clear HB;have HB:=n0_;have BK272:=n1_;have GW272:=n2_;have GE272:=n3_;clear n0_ n1_ n2_ n3_;clear hb hbox hg;have hcz4_0:w3.cell? ⟨gb272,0,none⟩=some (.string a0_0):=(blk_cell BK272.out 0).trans rfl;have hcz4_1:w3.cell? ⟨gb272,1,none⟩=some (.string a0_1):=(blk_cell BK272.out 1).trans rfl;have hcz4_2:w3.cell? ⟨gb272,2,none⟩=some (.string a0_2):=(blk_cell BK272.out 2).trans rfl;have hcz4_3:w3.cell? ⟨gb272,3,none⟩=some (.slice A0_3 l0_3.length c0_3):=(blk_cell BK272.out 3).trans rfl;have hcz4_4:w3.cell? ⟨gb272,4,none⟩=some (.slice A0_4 l0_4.length c0_4):=(blk_cell BK272.out 4).trans rfl;have hcz4_5:w3.cell? ⟨gb272,5,none⟩=some (.int .i64 a0_5):=(blk_cell BK272.out 5).trans rfl;have hcz4_6:w3.cell? ⟨gb272,6,none⟩=some (.int .i64 a0_6):=(blk_cell BK272.out 6).trans rfl;have hcz4_7:w3.cell? ⟨gb272,7,none⟩=some (.slice A0_7 l0_7.length c0_7):=(blk_cell BK272.out 7).trans rfl;have hfz4_0:=blk_frozen BK272.out 0;have hfz4_1:=blk_frozen BK272.out 1;have hfz4_2:=blk_frozen BK272.out 2;have hfz4_3:=blk_frozen BK272.out 3;have hfz4_4:=blk_frozen BK272.out 4;have hfz4_5:=blk_frozen BK272.out 5;have hfz4_6:=blk_frozen BK272.out 6;have hfz4_7:=blk_frozen BK272.out 7)|((with_reducible refine gate_callee (f:=74) rfl ?_);refine goesL_ (some 4) rfl rfl Tryd.func74 (by kernel_rfl) rfl #[.agg #[.string a0_0,.string a0_1,.string a0_2,.slice A0_3 l0_3.length c0_3,.slice A0_4 l0_4.length c0_4,.int .i64 a0_5,.int .i64 a0_6,.slice A0_7 l0_7.length c0_7]] rfl (by (try simp only [List.map_toArray,List.map_cons,List.map_nil]);first|done|rfl|(simp only [List.length_drop,List.length_take];rfl)) ?_;(with_reducible refine (spec_l4Ok.calls k a0_0 a0_1 a0_2 _ _ l0_3 _ _ l0_4 a0_5 a0_6 _ _ l0_7 t273 _ ?side1 ?side2 ?side3 ?side4 ?side5 ?side6 A2.out).mono ?_);(case side1=>repeat (first|exact (Kd.C_below HR0_3.out HB.out)|(with_reducible refine Kd.C_alloc ?_ _)|(with_reducible refine Kd.C_drewN ?_ _)|(with_reducible refine Kd.C_drew ?_)));(case side2=>exact HC0_3.out);(case side3=>repeat (first|exact (Kd.C_below HR0_4.out HB.out)|(with_reducible refine Kd.C_alloc ?_ _)|(with_reducible refine Kd.C_drewN ?_ _)|(with_reducible refine Kd.C_drew ?_)));(case side4=>exact HC0_4.out);(case side5=>repeat (first|exact (Kd.C_below HR0_7.out HB.out)|(with_reducible refine Kd.C_alloc ?_ _)|(with_reducible refine Kd.C_drewN ?_ _)|(with_reducible refine Kd.C_drew ?_)));(case side6=>exact HC0_7.out);rintro e w5 ⟨rfl,hb⟩;refine ⟨_,rfl,?_⟩;have n0_:=Aside0.mk (blk_below (g:=gb272) (o:=.cells #[.string a0_0,.string a0_1,.string a0_2,.slice A0_3 l0_3.length c0_3,.slice A0_4 l0_4.length c0_4,.int .i64 a0_5,.int .i64 a0_6,.slice A0_7 l0_7.length c0_7] 67 (0,0)) (by (with_reducible repeat (first|refine blk_drewN ?_ _|refine blk_drew ?_|refine blk_alloc ?_ _));exact BK272.out) hb);have n1_:=Aside0.mk (below_step (by repeat (first|(with_reducible first|exact HB.out|apply below_alloc|apply pw_below_drewN|apply below_drew1|refine below_set ?_ GE272.out)|exact HB.out)) hb);clear BK272;clear HB;have BK272:=n0_;have HB:=n1_;clear n0_ n1_;(try clear hb);(try clear hb2);(try clear hk);(try clear hi)))
  go_ret
  exact ⟨by first|rfl|(simp [errW_none,errW_some]<;>rfl)|(simp [*,errW_none,errW_some]<;>rfl),by repeat (first|(with_reducible first|exact HB.out|apply below_alloc|apply pw_below_drewN|apply below_drew1|refine below_set ?_ GE272.out)|exact HB.out)⟩
def impl_CliOk_1.f (a0:Int):Option (Bool):=(impl_within.f a0 0 4).bind fun t265=>(some (!t265))
set_option maxHeartbeats 8000000 in
set_option maxRecDepth 100000 in
theorem impl_CliOk_1.calls (a0:Int) (r:Bool) (w:World) (h:impl_CliOk_1.f a0=some r) :
    Calls Tryd.prog 76 #[.int .i64 a0] w fun e w'=>e=.returned (.bool r)∧Drawn0 w w':=by
  have H:((impl_within.f a0 0 4).bind fun t265=>(some (!t265)))=some r:=h
  clear h
  replace H:=Option.bind_eq_some_iff.mp H
  obtain ⟨t265,A20,H⟩:=H
  replace H:(some (!t265))=some r:=H
  have A2:=Aside0.mk A20
  clear A20
  obtain rfl:=Option.some.inj H
  go_enter Tryd.func76,Tryd.ntmps76
  go_wp2_with (first|((with_reducible refine gate_callee (f:=49) rfl ?_);refine goesL_ (some 4) rfl rfl Tryd.func49 (by kernel_rfl) rfl #[.int .i64 a0,.int .i64 0,.int .i64 4] rfl (by (try simp only [List.map_toArray,List.map_cons,List.map_nil]);first|done|rfl|(simp only [List.length_drop,List.length_take];rfl)) ?_;(with_reducible refine (impl_within.calls a0 0 4 t265 _ A2.out).mono ?_);rintro e w' ⟨rfl,⟨nd,rfl⟩⟩;refine ⟨_,rfl,?_⟩))
  go_ret
  exact ⟨by first|rfl|(simp;done)|(simp [*];done),by repeat (first|exact Drawn0.refl _|apply Drawn0.step)⟩
end Go.Proofs.YthkibaldmjfmmaaDoor.Q
