/- Of a text of ours what this claim needs. -/
import Derived.Test.YthkibaldmjfmmaaDoorZzFnExactConfTakesWQ0
import Derived.Test.YthkibaldmjfmmaaDoorZzFnExactConfTakesWQ2
import Derived.Test.YthkibaldmjfmmaaDoorZzFnExactConfTakesWQ3
import Derived.Test.YthkibaldmjfmmaaDoorZzFnExactConfTakesWQ13
namespace Go.Proofs.YthkibaldmjfmmaaDoor.Q
open Go.RowKit Go.Proofs.YthkibaldmjfmmaaDoorW.PrintWords Go.Proofs.YthkibaldmjfmmaaDoorW.PrintLast Go.Proofs.YthkibaldmjfmmaaDoorW.PrintMore
attribute [local go_sem] max2_int min2_int max_two min_two max_three min_three max_four min_four
set_option linter.unusedVariables false
set_option linter.unusedSimpArgs false
def laws_szWayS.l0:Nat→List (S116)→Int→Int→Option (Int)
  | 0,_,_,_=>none
  | k+1,x0,x1,x5=>if x5 < (x0.length:Int) then (if 0≤x5 then ((laws_szWay.f ((rd_T116 x0 x5).f0) ((rd_T116 x0 x5).f1) x1).bind fun t140=>(if t140 < 0 then (some (-1)) else (laws_szWayS.l0 k x0 t140 (wrap64 (x5+1))))) else (none)) else (some x1)
def laws_szWayS.f (k:Nat) (l0:List (S116)) (a1:Int):Option (Int):=if (wrap64 (a1 - (l0.length:Int))) < 0 then (some (-1)) else (laws_szWayS.l0 k l0 (wrap64 (a1 - (l0.length:Int))) 0)
set_option maxHeartbeats 8000000 in
set_option maxRecDepth 100000 in
theorem laws_szWayS.calls (k:Nat) (A0:Option Addr) (c0:Nat) (l0:List (S116)) (a1:Int) (r:Int) (w:World) (hr0:Kd.C k116 w A0 l0.length l0) (hc0:l0.length≤c0) (h:laws_szWayS.f k l0 a1=some r) :
    Calls Tryd.prog 56 #[.slice A0 l0.length c0,.int .i64 a1] w fun e w'=>e=.returned (.int .i64 r)∧Below w.heap.size w w':=by
  have hu116:=Tryd.underlying116
  have HR0:=Aside0.mk hr0
  have HC0:=Aside0.mk hc0
  clear hr0 hc0
  have HB:=Aside0.mk (Below.refl w.heap.size w)
  have H:(if (wrap64 (a1 - (l0.length:Int))) < 0 then (some (-1)) else (laws_szWayS.l0 k l0 (wrap64 (a1 - (l0.length:Int))) 0))=some r:=h
  clear h
  by_cases c3:(wrap64 (a1 - (l0.length:Int))) < 0
  · rw [if_pos c3] at H
    have c3b0:decide ((wrap64 (a1 - (l0.length:Int))) < 0)=true:=decide_eq_true c3
    clear c3
    obtain rfl:=Option.some.inj H
    go_enter Tryd.func56,Tryd.ntmps56
    go_wp2
    go_ret
    exact ⟨by first|rfl|(simp [errW_none,errW_some]<;>rfl)|(simp [*,errW_none,errW_some]<;>rfl),by repeat (first|(with_reducible first|exact HB.out|apply below_alloc|apply pw_below_drewN|apply below_drew1)|exact HB.out)⟩
  · rw [if_neg c3] at H
    have c3b0:decide ((wrap64 (a1 - (l0.length:Int))) < 0)=false:=decide_eq_false c3
    clear c3
    have H':=Aside0.mk H
    clear H
    go_enter Tryd.func56,Tryd.ntmps56
    go_wp2
    go_loopg [1,5] k (fun kq v1 v5 w'=>∃ (x1_1:Int) (x5_1:Int),v1=.int .i64 x1_1∧v5=.int .i64 x5_1∧Aside0 (laws_szWayS.l0 kq l0 x1_1 x5_1=some r)∧Aside0 (kq≤k)∧Aside0 (Below w.heap.size w w'))
    case atStart=>exact ⟨(wrap64 (a1 - (l0.length:Int))),(0),(by first|rfl|(simp;done)|(simp [*];done)),(by first|rfl|(simp;done)|(simp [*];done)),H',⟨Nat.le_refl _⟩,⟨by repeat (first|(with_reducible first|exact HB.out|apply below_alloc|apply pw_below_drewN|apply below_drew1)|exact HB.out)⟩⟩
    case round =>
      clear H'
      try clear p2
      try clear c3
      try clear c3b0
      obtain ⟨x1_1,x5_1,rfl,rfl,HA,HK1,HB⟩:=hrel
      cases gk with
      | zero=>exact absurd HA.out (by simp [laws_szWayS.l0])
      | succ k1 =>
        have H:=HA.out
        clear HA
        simp only [laws_szWayS.l0] at H
        by_cases c4:x5_1 < (l0.length:Int)
        · rw [if_pos c4] at H
          have c4b0:decide (x5_1 < (l0.length:Int))=true:=decide_eq_true c4
          clear c4
          by_cases c5:0≤x5_1
          · rw [if_pos c5] at H
            have c5b0:decide (0≤x5_1)=true:=decide_eq_true c5
            clear c5
            replace H:=Option.bind_eq_some_iff.mp H
            obtain ⟨t140,A60,H⟩:=H
            replace H:(if t140 < 0 then (some (-1)) else (laws_szWayS.l0 k1 l0 t140 (wrap64 (x5_1+1))))=some r:=H
            have A6:=Aside0.mk A60
            clear A60
            by_cases c7:t140 < 0
            · rw [if_pos c7] at H
              have c7b0:decide (t140 < 0)=true:=decide_eq_true c7
              clear c7
              obtain rfl:=Option.some.inj H
              have p139:0≤(x5_1:Int):=of_decide_eq_true (by first|(with_reducible assumption)|assumption)
              have q139:x5_1 < (l0.length:Int):=of_decide_eq_true (by first|(with_reducible assumption)|assumption)
              obtain ⟨ad139,e139,hx139_0,hx139_1⟩:=at_T116 HR0.out x5_1 p139 q139
              cases e139
              replace hx139_0:=(HB.out.cell (World.block_lt_of_cell? w _ hx139_0)).trans hx139_0
              replace hx139_1:=(HB.out.cell (World.block_lt_of_cell? w _ hx139_1)).trans hx139_1
              replace p139:=eq_true p139
              replace q139:=eq_true q139
              go_wp2_with (first|((with_reducible refine gate_callee (f:=99) rfl ?_);refine goesL_ (some 23) rfl rfl Tryd.func99 (by kernel_rfl) rfl #[.agg #[.string ((rd_T116 l0 x5_1).f0),.string ((rd_T116 l0 x5_1).f1)],.int .i64 x1_1] rfl (by (try simp only [List.map_toArray,List.map_cons,List.map_nil]);first|done|rfl|(simp only [List.length_drop,List.length_take];rfl)) ?_;(with_reducible refine (laws_szWay.calls ((rd_T116 l0 x5_1).f0) ((rd_T116 l0 x5_1).f1) x1_1 t140 _ A6.out).mono ?_);rintro e w8 ⟨rfl,hb⟩;refine ⟨_,rfl,?_⟩;have n0_:=Aside0.mk (below_step (by repeat (first|(with_reducible first|exact HB.out|apply below_alloc|apply pw_below_drewN|apply below_drew1)|exact HB.out)) hb);clear HB;have HB:=n0_;clear n0_;(try clear hb);(try clear hb2);(try clear hk);(try clear hi)))
              go_ret
              exact ⟨by first|rfl|(simp [errW_none,errW_some]<;>rfl)|(simp [*,errW_none,errW_some]<;>rfl),by repeat (first|(with_reducible first|exact HB.out|apply below_alloc|apply pw_below_drewN|apply below_drew1)|exact HB.out)⟩
            · rw [if_neg c7] at H
              have c7b0:decide (t140 < 0)=false:=decide_eq_false c7
              clear c7
              have H':=Aside0.mk H
              clear H
              have p139:0≤(x5_1:Int):=of_decide_eq_true (by first|(with_reducible assumption)|assumption)
              have q139:x5_1 < (l0.length:Int):=of_decide_eq_true (by first|(with_reducible assumption)|assumption)
              obtain ⟨ad139,e139,hx139_0,hx139_1⟩:=at_T116 HR0.out x5_1 p139 q139
              cases e139
              replace hx139_0:=(HB.out.cell (World.block_lt_of_cell? w _ hx139_0)).trans hx139_0
              replace hx139_1:=(HB.out.cell (World.block_lt_of_cell? w _ hx139_1)).trans hx139_1
              replace p139:=eq_true p139
              replace q139:=eq_true q139
              go_wp2_with (first|((with_reducible refine gate_callee (f:=99) rfl ?_);refine goesL_ (some 23) rfl rfl Tryd.func99 (by kernel_rfl) rfl #[.agg #[.string ((rd_T116 l0 x5_1).f0),.string ((rd_T116 l0 x5_1).f1)],.int .i64 x1_1] rfl (by (try simp only [List.map_toArray,List.map_cons,List.map_nil]);first|done|rfl|(simp only [List.length_drop,List.length_take];rfl)) ?_;(with_reducible refine (laws_szWay.calls ((rd_T116 l0 x5_1).f0) ((rd_T116 l0 x5_1).f1) x1_1 t140 _ A6.out).mono ?_);rintro e w9 ⟨rfl,hb⟩;refine ⟨_,rfl,?_⟩;have n0_:=Aside0.mk (below_step (by repeat (first|(with_reducible first|exact HB.out|apply below_alloc|apply pw_below_drewN|apply below_drew1)|exact HB.out)) hb);clear HB;have HB:=n0_;clear n0_;(try clear hb);(try clear hb2);(try clear hk);(try clear hi)))
              go_roundg k1
              case measure=>have:=HK1.out;omega
              case rel=>exact ⟨(t140),(wrap64 (x5_1+1)),(by first|rfl|(simp;done)|(simp [*];done)),(by first|rfl|(simp;done)|(simp [*];done)),H',⟨by have:=HK1.out;omega⟩,⟨by repeat (first|(with_reducible first|exact HB.out|apply below_alloc|apply pw_below_drewN|apply below_drew1)|exact HB.out)⟩⟩
          · rw [if_neg c5] at H
            exact absurd H (by simp)
        · rw [if_neg c4] at H
          have c4b0:decide (x5_1 < (l0.length:Int))=false:=decide_eq_false c4
          clear c4
          obtain rfl:=Option.some.inj H
          go_wp2
          go_ret
          exact ⟨by first|rfl|(simp [errW_none,errW_some]<;>rfl)|(simp [*,errW_none,errW_some]<;>rfl),by repeat (first|(with_reducible first|exact HB.out|apply below_alloc|apply pw_below_drewN|apply below_drew1)|exact HB.out)⟩
def laws_szConf.f (k:Nat) (a0_0:ByteArray) (l0_1:List ByteArray) (l0_2:List (S116)) (a1:Int):Option (Int):=if (wrap64 (a1 - (a0_0.size:Int))) < 0 then (some (-1)) else ((laws_szStringS.f k l0_1 (wrap64 (a1 - (a0_0.size:Int)))).bind fun t142=>(if t142 < 0 then (some (-1)) else ((laws_szWayS.f k l0_2 t142).bind fun t143=>(if t143 < 0 then (some (-1)) else (some t143)))))
set_option maxHeartbeats 8000000 in
set_option maxRecDepth 100000 in
theorem laws_szConf.calls (k:Nat) (a0_0:ByteArray) (A0_1:Option Addr) (c0_1:Nat) (l0_1:List ByteArray) (A0_2:Option Addr) (c0_2:Nat) (l0_2:List (S116)) (a1:Int) (r:Int) (w:World) (hr0_1:Kd.C Kd.string w A0_1 l0_1.length l0_1) (hc0_1:l0_1.length≤c0_1) (hr0_2:Kd.C k116 w A0_2 l0_2.length l0_2) (hc0_2:l0_2.length≤c0_2) (h:laws_szConf.f k a0_0 l0_1 l0_2 a1=some r) :
    Calls Tryd.prog 15 #[.agg #[.string a0_0,.slice A0_1 l0_1.length c0_1,.slice A0_2 l0_2.length c0_2],.int .i64 a1] w fun e w'=>e=.returned (.int .i64 r)∧Below w.heap.size w w':=by
  have hu39:=Tryd.underlying39
  have HR0_1:=Aside0.mk hr0_1
  have HC0_1:=Aside0.mk hc0_1
  clear hr0_1 hc0_1
  have HR0_2:=Aside0.mk hr0_2
  have HC0_2:=Aside0.mk hc0_2
  clear hr0_2 hc0_2
  have HB:=Aside0.mk (Below.refl w.heap.size w)
  have H:(if (wrap64 (a1 - (a0_0.size:Int))) < 0 then (some (-1)) else ((laws_szStringS.f k l0_1 (wrap64 (a1 - (a0_0.size:Int)))).bind fun t142=>(if t142 < 0 then (some (-1)) else ((laws_szWayS.f k l0_2 t142).bind fun t143=>(if t143 < 0 then (some (-1)) else (some t143))))))=some r:=h
  clear h
  by_cases c3:(wrap64 (a1 - (a0_0.size:Int))) < 0
  · rw [if_pos c3] at H
    have c3b0:decide ((wrap64 (a1 - (a0_0.size:Int))) < 0)=true:=decide_eq_true c3
    clear c3
    obtain rfl:=Option.some.inj H
    go_enter Tryd.func15,Tryd.ntmps15
    go_wp2_with (first|((with_reducible refine gate_dst (N:=2) rfl ?_);refine box_event ?hg (N:=2) ?hd (cs:=#[.string a0_0,.slice A0_1 l0_1.length c0_1,.slice A0_2 l0_2.length c0_2]) (t:=39) ?hr ?_;(case hd=>rfl);(case hg=>rfl);(case hr=>first|(go_simp;done)|(go_simp;rfl));intro gb141 hg w4 hbox hb;have n0_:=Aside0.mk (below_step (by repeat (first|(with_reducible first|exact HB.out|apply below_alloc|apply pw_below_drewN|apply below_drew1)|exact HB.out)) hb);have n1_:=Aside0.mk (hbox);have n2_:=Aside0.mk ((by rw [hg];exact (below_size (by repeat (first|(with_reducible first|exact HB.out|apply below_alloc|apply pw_below_drewN|apply below_drew1)|exact HB.out))):w.heap.size≤gb141));have n3_:=Aside0.mk ((by rw [hg];exact (below_size (by repeat (first|(with_reducible first|exact HB.out|apply below_alloc|apply pw_below_drewN|apply below_drew1)|exact HB.out))):w.heap.size≤gb141));clear HB;have HB:=n0_;have BK141:=n1_;have GW141:=n2_;have GE141:=n3_;clear n0_ n1_ n2_ n3_;clear hb hbox hg;have hcz5_0:w4.cell? ⟨gb141,0,none⟩=some (.string a0_0):=(blk_cell BK141.out 0).trans rfl;have hcz5_1:w4.cell? ⟨gb141,1,none⟩=some (.slice A0_1 l0_1.length c0_1):=(blk_cell BK141.out 1).trans rfl;have hcz5_2:w4.cell? ⟨gb141,2,none⟩=some (.slice A0_2 l0_2.length c0_2):=(blk_cell BK141.out 2).trans rfl;have hfz5_0:=blk_frozen BK141.out 0;have hfz5_1:=blk_frozen BK141.out 1;have hfz5_2:=blk_frozen BK141.out 2))
    go_ret
    exact ⟨by first|rfl|(simp [errW_none,errW_some]<;>rfl)|(simp [*,errW_none,errW_some]<;>rfl),by repeat (first|(with_reducible first|exact HB.out|apply below_alloc|apply pw_below_drewN|apply below_drew1|refine below_set ?_ GE141.out)|exact HB.out)⟩
  · rw [if_neg c3] at H
    have c3b0:decide ((wrap64 (a1 - (a0_0.size:Int))) < 0)=false:=decide_eq_false c3
    clear c3
    replace H:=Option.bind_eq_some_iff.mp H
    obtain ⟨t142,A60,H⟩:=H
    replace H:(if t142 < 0 then (some (-1)) else ((laws_szWayS.f k l0_2 t142).bind fun t143=>(if t143 < 0 then (some (-1)) else (some t143))))=some r:=H
    have A6:=Aside0.mk A60
    clear A60
    by_cases c7:t142 < 0
    · rw [if_pos c7] at H
      have c7b0:decide (t142 < 0)=true:=decide_eq_true c7
      clear c7
      obtain rfl:=Option.some.inj H
      go_enter Tryd.func15,Tryd.ntmps15
      go_wp2_with (first|((with_reducible refine gate_dst (N:=2) rfl ?_);refine box_event ?hg (N:=2) ?hd (cs:=#[.string a0_0,.slice A0_1 l0_1.length c0_1,.slice A0_2 l0_2.length c0_2]) (t:=39) ?hr ?_;(case hd=>rfl);(case hg=>rfl);(case hr=>first|(go_simp;done)|(go_simp;rfl));intro gb141 hg w8 hbox hb;have n0_:=Aside0.mk (below_step (by repeat (first|(with_reducible first|exact HB.out|apply below_alloc|apply pw_below_drewN|apply below_drew1)|exact HB.out)) hb);have n1_:=Aside0.mk (hbox);have n2_:=Aside0.mk ((by rw [hg];exact (below_size (by repeat (first|(with_reducible first|exact HB.out|apply below_alloc|apply pw_below_drewN|apply below_drew1)|exact HB.out))):w.heap.size≤gb141));have n3_:=Aside0.mk ((by rw [hg];exact (below_size (by repeat (first|(with_reducible first|exact HB.out|apply below_alloc|apply pw_below_drewN|apply below_drew1)|exact HB.out))):w.heap.size≤gb141));clear HB;have HB:=n0_;have BK141:=n1_;have GW141:=n2_;have GE141:=n3_;clear n0_ n1_ n2_ n3_;clear hb hbox hg;have hcz9_0:w8.cell? ⟨gb141,0,none⟩=some (.string a0_0):=(blk_cell BK141.out 0).trans rfl;have hcz9_1:w8.cell? ⟨gb141,1,none⟩=some (.slice A0_1 l0_1.length c0_1):=(blk_cell BK141.out 1).trans rfl;have hcz9_2:w8.cell? ⟨gb141,2,none⟩=some (.slice A0_2 l0_2.length c0_2):=(blk_cell BK141.out 2).trans rfl;have hfz9_0:=blk_frozen BK141.out 0;have hfz9_1:=blk_frozen BK141.out 1;have hfz9_2:=blk_frozen BK141.out 2)|((with_reducible refine gate_callee (f:=42) rfl ?_);refine goesL_ (some 15) rfl rfl Tryd.func42 (by kernel_rfl) rfl #[.slice A0_1 l0_1.length c0_1,.int .i64 (wrap64 (a1 - (a0_0.size:Int)))] rfl (by (try simp only [List.map_toArray,List.map_cons,List.map_nil]);first|done|rfl|(simp only [List.length_drop,List.length_take];rfl)) ?_;(with_reducible refine (laws_szStringS.calls k _ _ l0_1 (wrap64 (a1 - (a0_0.size:Int))) t142 _ ?side1 ?side2 A6.out).mono ?_);(case side1=>repeat (first|exact (Kd.C_below HR0_1.out HB.out)|(with_reducible refine Kd.C_alloc ?_ _)|(with_reducible refine Kd.C_drewN ?_ _)|(with_reducible refine Kd.C_drew ?_)));(case side2=>exact HC0_1.out);rintro e w' ⟨rfl,⟨nd,rfl⟩⟩;refine ⟨_,rfl,?_⟩))
      go_ret
      exact ⟨by first|rfl|(simp [errW_none,errW_some]<;>rfl)|(simp [*,errW_none,errW_some]<;>rfl),by repeat (first|(with_reducible first|exact HB.out|apply below_alloc|apply pw_below_drewN|apply below_drew1|refine below_set ?_ GE141.out)|exact HB.out)⟩
    · rw [if_neg c7] at H
      have c7b0:decide (t142 < 0)=false:=decide_eq_false c7
      clear c7
      replace H:=Option.bind_eq_some_iff.mp H
      obtain ⟨t143,A100,H⟩:=H
      replace H:(if t143 < 0 then (some (-1)) else (some t143))=some r:=H
      have A10:=Aside0.mk A100
      clear A100
      by_cases c11:t143 < 0
      · rw [if_pos c11] at H
        have c11b0:decide (t143 < 0)=true:=decide_eq_true c11
        clear c11
        obtain rfl:=Option.some.inj H
        go_enter Tryd.func15,Tryd.ntmps15
        go_wp2_with (first|((with_reducible refine gate_dst (N:=2) rfl ?_);refine box_event ?hg (N:=2) ?hd (cs:=#[.string a0_0,.slice A0_1 l0_1.length c0_1,.slice A0_2 l0_2.length c0_2]) (t:=39) ?hr ?_;(case hd=>rfl);(case hg=>rfl);(case hr=>first|(go_simp;done)|(go_simp;rfl));intro gb141 hg w12 hbox hb;have n0_:=Aside0.mk (below_step (by repeat (first|(with_reducible first|exact HB.out|apply below_alloc|apply pw_below_drewN|apply below_drew1)|exact HB.out)) hb);have n1_:=Aside0.mk (hbox);have n2_:=Aside0.mk ((by rw [hg];exact (below_size (by repeat (first|(with_reducible first|exact HB.out|apply below_alloc|apply pw_below_drewN|apply below_drew1)|exact HB.out))):w.heap.size≤gb141));have n3_:=Aside0.mk ((by rw [hg];exact (below_size (by repeat (first|(with_reducible first|exact HB.out|apply below_alloc|apply pw_below_drewN|apply below_drew1)|exact HB.out))):w.heap.size≤gb141));clear HB;have HB:=n0_;have BK141:=n1_;have GW141:=n2_;have GE141:=n3_;clear n0_ n1_ n2_ n3_;clear hb hbox hg;have hcz13_0:w12.cell? ⟨gb141,0,none⟩=some (.string a0_0):=(blk_cell BK141.out 0).trans rfl;have hcz13_1:w12.cell? ⟨gb141,1,none⟩=some (.slice A0_1 l0_1.length c0_1):=(blk_cell BK141.out 1).trans rfl;have hcz13_2:w12.cell? ⟨gb141,2,none⟩=some (.slice A0_2 l0_2.length c0_2):=(blk_cell BK141.out 2).trans rfl;have hfz13_0:=blk_frozen BK141.out 0;have hfz13_1:=blk_frozen BK141.out 1;have hfz13_2:=blk_frozen BK141.out 2)|((with_reducible refine gate_callee (f:=42) rfl ?_);refine goesL_ (some 15) rfl rfl Tryd.func42 (by kernel_rfl) rfl #[.slice A0_1 l0_1.length c0_1,.int .i64 (wrap64 (a1 - (a0_0.size:Int)))] rfl (by (try simp only [List.map_toArray,List.map_cons,List.map_nil]);first|done|rfl|(simp only [List.length_drop,List.length_take];rfl)) ?_;(with_reducible refine (laws_szStringS.calls k _ _ l0_1 (wrap64 (a1 - (a0_0.size:Int))) t142 _ ?side1 ?side2 A6.out).mono ?_);(case side1=>repeat (first|exact (Kd.C_below HR0_1.out HB.out)|(with_reducible refine Kd.C_alloc ?_ _)|(with_reducible refine Kd.C_drewN ?_ _)|(with_reducible refine Kd.C_drew ?_)));(case side2=>exact HC0_1.out);rintro e w' ⟨rfl,⟨nd,rfl⟩⟩;refine ⟨_,rfl,?_⟩)|((with_reducible refine gate_callee (f:=56) rfl ?_);refine goesL_ (some 21) rfl rfl Tryd.func56 (by kernel_rfl) rfl #[.slice A0_2 l0_2.length c0_2,.int .i64 t142] rfl (by (try simp only [List.map_toArray,List.map_cons,List.map_nil]);first|done|rfl|(simp only [List.length_drop,List.length_take];rfl)) ?_;(with_reducible refine (laws_szWayS.calls k _ _ l0_2 t142 t143 _ ?side1 ?side2 A10.out).mono ?_);(case side1=>repeat (first|exact (Kd.C_below HR0_2.out (by repeat (first|(with_reducible first|exact HB.out|apply below_alloc|apply pw_below_drewN|apply below_drew1|refine below_set ?_ GE141.out)|exact HB.out)))|(with_reducible refine Kd.C_alloc ?_ _)|(with_reducible refine Kd.C_drewN ?_ _)|(with_reducible refine Kd.C_drew ?_)));(case side2=>exact HC0_2.out);rintro e w14 ⟨rfl,hb⟩;refine ⟨_,rfl,?_⟩;have n0_:=Aside0.mk (blk_below (g:=gb141) (o:=.cells #[.string a0_0,.slice A0_1 l0_1.length c0_1,.slice A0_2 l0_2.length c0_2] 39 (0,0)) (by (with_reducible repeat (first|refine blk_drewN ?_ _|refine blk_drew ?_|refine blk_alloc ?_ _));exact BK141.out) hb);have n1_:=Aside0.mk (below_step (by repeat (first|(with_reducible first|exact HB.out|apply below_alloc|apply pw_below_drewN|apply below_drew1|refine below_set ?_ GE141.out)|exact HB.out)) hb);clear BK141;clear HB;have BK141:=n0_;have HB:=n1_;clear n0_ n1_;(try clear hb);(try clear hb2);(try clear hk);(try clear hi)))
        go_ret
        exact ⟨by first|rfl|(simp [errW_none,errW_some]<;>rfl)|(simp [*,errW_none,errW_some]<;>rfl),by repeat (first|(with_reducible first|exact HB.out|apply below_alloc|apply pw_below_drewN|apply below_drew1|refine below_set ?_ GE141.out)|exact HB.out)⟩
      · rw [if_neg c11] at H
        have c11b0:decide (t143 < 0)=false:=decide_eq_false c11
        clear c11
        obtain rfl:=Option.some.inj H
        go_enter Tryd.func15,Tryd.ntmps15
        go_wp2_with (first|((with_reducible refine gate_dst (N:=2) rfl ?_);refine box_event ?hg (N:=2) ?hd (cs:=#[.string a0_0,.slice A0_1 l0_1.length c0_1,.slice A0_2 l0_2.length c0_2]) (t:=39) ?hr ?_;(case hd=>rfl);(case hg=>rfl);(case hr=>first|(go_simp;done)|(go_simp;rfl));intro gb141 hg w15 hbox hb;have n0_:=Aside0.mk (below_step (by repeat (first|(with_reducible first|exact HB.out|apply below_alloc|apply pw_below_drewN|apply below_drew1)|exact HB.out)) hb);have n1_:=Aside0.mk (hbox);have n2_:=Aside0.mk ((by rw [hg];exact (below_size (by repeat (first|(with_reducible first|exact HB.out|apply below_alloc|apply pw_below_drewN|apply below_drew1)|exact HB.out))):w.heap.size≤gb141));have n3_:=Aside0.mk ((by rw [hg];exact (below_size (by repeat (first|(with_reducible first|exact HB.out|apply below_alloc|apply pw_below_drewN|apply below_drew1)|exact HB.out))):w.heap.size≤gb141));clear HB;have HB:=n0_;have BK141:=n1_;have GW141:=n2_;have GE141:=n3_;clear n0_ n1_ n2_ n3_;clear hb hbox hg;have hcz16_0:w15.cell? ⟨gb141,0,none⟩=some (.string a0_0):=(blk_cell BK141.out 0).trans rfl;have hcz16_1:w15.cell? ⟨gb141,1,none⟩=some (.slice A0_1 l0_1.length c0_1):=(blk_cell BK141.out 1).trans rfl;have hcz16_2:w15.cell? ⟨gb141,2,none⟩=some (.slice A0_2 l0_2.length c0_2):=(blk_cell BK141.out 2).trans rfl;have hfz16_0:=blk_frozen BK141.out 0;have hfz16_1:=blk_frozen BK141.out 1;have hfz16_2:=blk_frozen BK141.out 2)|((with_reducible refine gate_callee (f:=42) rfl ?_);refine goesL_ (some 15) rfl rfl Tryd.func42 (by kernel_rfl) rfl #[.slice A0_1 l0_1.length c0_1,.int .i64 (wrap64 (a1 - (a0_0.size:Int)))] rfl (by (try simp only [List.map_toArray,List.map_cons,List.map_nil]);first|done|rfl|(simp only [List.length_drop,List.length_take];rfl)) ?_;(with_reducible refine (laws_szStringS.calls k _ _ l0_1 (wrap64 (a1 - (a0_0.size:Int))) t142 _ ?side1 ?side2 A6.out).mono ?_);(case side1=>repeat (first|exact (Kd.C_below HR0_1.out HB.out)|(with_reducible refine Kd.C_alloc ?_ _)|(with_reducible refine Kd.C_drewN ?_ _)|(with_reducible refine Kd.C_drew ?_)));(case side2=>exact HC0_1.out);rintro e w' ⟨rfl,⟨nd,rfl⟩⟩;refine ⟨_,rfl,?_⟩)|((with_reducible refine gate_callee (f:=56) rfl ?_);refine goesL_ (some 21) rfl rfl Tryd.func56 (by kernel_rfl) rfl #[.slice A0_2 l0_2.length c0_2,.int .i64 t142] rfl (by (try simp only [List.map_toArray,List.map_cons,List.map_nil]);first|done|rfl|(simp only [List.length_drop,List.length_take];rfl)) ?_;(with_reducible refine (laws_szWayS.calls k _ _ l0_2 t142 t143 _ ?side1 ?side2 A10.out).mono ?_);(case side1=>repeat (first|exact (Kd.C_below HR0_2.out (by repeat (first|(with_reducible first|exact HB.out|apply below_alloc|apply pw_below_drewN|apply below_drew1|refine below_set ?_ GE141.out)|exact HB.out)))|(with_reducible refine Kd.C_alloc ?_ _)|(with_reducible refine Kd.C_drewN ?_ _)|(with_reducible refine Kd.C_drew ?_)));(case side2=>exact HC0_2.out);rintro e w17 ⟨rfl,hb⟩;refine ⟨_,rfl,?_⟩;have n0_:=Aside0.mk (blk_below (g:=gb141) (o:=.cells #[.string a0_0,.slice A0_1 l0_1.length c0_1,.slice A0_2 l0_2.length c0_2] 39 (0,0)) (by (with_reducible repeat (first|refine blk_drewN ?_ _|refine blk_drew ?_|refine blk_alloc ?_ _));exact BK141.out) hb);have n1_:=Aside0.mk (below_step (by repeat (first|(with_reducible first|exact HB.out|apply below_alloc|apply pw_below_drewN|apply below_drew1|refine below_set ?_ GE141.out)|exact HB.out)) hb);clear BK141;clear HB;have BK141:=n0_;have HB:=n1_;clear n0_ n1_;(try clear hb);(try clear hb2);(try clear hk);(try clear hi)))
        go_ret
        exact ⟨by first|rfl|(simp [errW_none,errW_some]<;>rfl)|(simp [*,errW_none,errW_some]<;>rfl),by repeat (first|(with_reducible first|exact HB.out|apply below_alloc|apply pw_below_drewN|apply below_drew1|refine below_set ?_ GE141.out)|exact HB.out)⟩
def laws_toWay.f (a0_0:ByteArray) (a0_1:ByteArray):Option (ByteArray × ByteArray):=some (a0_0,a0_1)
set_option maxHeartbeats 8000000 in
set_option maxRecDepth 100000 in
theorem laws_toWay.calls (a0_0:ByteArray) (a0_1:ByteArray) (r1:ByteArray) (r2:ByteArray) (w:World) (h:laws_toWay.f a0_0 a0_1=some (r1,r2)) :
    Calls Tryd.prog 103 #[.agg #[.string a0_0,.string a0_1]] w fun e w'=>e=.returned (.agg #[.string r1,.string r2])∧Below w.heap.size w w':=by
  have hu116:=Tryd.underlying116
  have hu117:=Tryd.underlying117
  have HB:=Aside0.mk (Below.refl w.heap.size w)
  have H:(some (a0_0,a0_1))=some (r1,r2):=h
  clear h
  simp only [Option.some.injEq,Prod.mk.injEq] at H
  obtain ⟨rfl,rfl⟩:=H
  go_enter Tryd.func103,Tryd.ntmps103
  go_wp2_with (first|((with_reducible refine gate_dst (N:=1) rfl ?_);refine box_event ?hg (N:=1) ?hd (cs:=#[.string a0_0,.string a0_1]) (t:=116) ?hr ?_;(case hd=>rfl);(case hg=>rfl);(case hr=>first|(go_simp;done)|(go_simp;rfl));intro gb138 hg w2 hbox hb;have n0_:=Aside0.mk (below_step (by repeat (first|(with_reducible first|exact HB.out|apply below_alloc|apply pw_below_drewN|apply below_drew1)|exact HB.out)) hb);have n1_:=Aside0.mk (hbox);have n2_:=Aside0.mk ((by rw [hg];exact (below_size (by repeat (first|(with_reducible first|exact HB.out|apply below_alloc|apply pw_below_drewN|apply below_drew1)|exact HB.out))):w.heap.size≤gb138));have n3_:=Aside0.mk ((by rw [hg];exact (below_size (by repeat (first|(with_reducible first|exact HB.out|apply below_alloc|apply pw_below_drewN|apply below_drew1)|exact HB.out))):w.heap.size≤gb138));clear HB;have HB:=n0_;have BK138:=n1_;have GW138:=n2_;have GE138:=n3_;clear n0_ n1_ n2_ n3_;clear hb hbox hg)|((with_reducible refine gate_dst (N:=2) rfl ?_);refine box_event ?hg (N:=2) ?hd (cs:=#[.string (⟨#[]⟩:ByteArray),.string (⟨#[]⟩:ByteArray)]) (t:=117) ?hr ?_;(case hd=>rfl);(case hg=>rfl);(case hr=>first|(go_simp;done)|(go_simp;rfl));intro gb139 hg w3 hbox hb;have n0_:=Aside0.mk (blk_below (g:=gb138) (o:=.cells #[.string a0_0,.string a0_1] 116 (0,0)) (by (with_reducible repeat (first|refine blk_drewN ?_ _|refine blk_drew ?_|refine blk_alloc ?_ _));exact BK138.out) hb);have n1_:=Aside0.mk (below_step (by repeat (first|(with_reducible first|exact HB.out|apply below_alloc|apply pw_below_drewN|apply below_drew1|refine below_set ?_ GE138.out)|exact HB.out)) hb);have n2_:=Aside0.mk (hbox);have n3_:=Aside0.mk ((by rw [hg];exact (below_size (by repeat (first|(with_reducible first|exact HB.out|apply below_alloc|apply pw_below_drewN|apply below_drew1|refine below_set ?_ GE138.out)|exact HB.out))):w.heap.size≤gb139));have n4_:=Aside0.mk ((by rw [hg];exact (below_size (by repeat (first|(with_reducible first|exact HB.out|apply below_alloc|apply pw_below_drewN|apply below_drew1|refine below_set ?_ GE138.out)|exact HB.out))):w.heap.size≤gb139));have n5_:=Aside0.mk ((by rw [hg];exact Nat.ne_of_lt (blk_lt (g:=gb138) (o:=.cells #[.string a0_0,.string a0_1] 116 (0,0)) (by (with_reducible repeat (first|refine blk_drewN ?_ _|refine blk_drew ?_|refine blk_alloc ?_ _));exact BK138.out)):gb138≠gb139));have n6_:=Aside0.mk ((by rw [hg];exact Nat.ne_of_gt (blk_lt (g:=gb138) (o:=.cells #[.string a0_0,.string a0_1] 116 (0,0)) (by (with_reducible repeat (first|refine blk_drewN ?_ _|refine blk_drew ?_|refine blk_alloc ?_ _));exact BK138.out)):gb139≠gb138));clear BK138;clear HB;have BK138:=n0_;have HB:=n1_;have BK139:=n2_;have GW139:=n3_;have GE139:=n4_;have NB138_139:=n5_;have NB139_138:=n6_;clear n0_ n1_ n2_ n3_ n4_ n5_ n6_;clear hb hbox hg)|((with_reducible refine gate_dst (N:=3) rfl ?_);refine box_event ?hg (N:=3) ?hd (cs:=#[.string (⟨#[]⟩:ByteArray),.string (⟨#[]⟩:ByteArray)]) (t:=117) ?hr ?_;(case hd=>rfl);(case hg=>rfl);(case hr=>first|(go_simp;done)|(go_simp;rfl));intro gb140 hg w4 hbox hb;have n0_:=Aside0.mk (blk_below (g:=gb138) (o:=.cells #[.string a0_0,.string a0_1] 116 (0,0)) (by (with_reducible repeat (first|refine blk_drewN ?_ _|refine blk_drew ?_|refine blk_alloc ?_ _));exact BK138.out) hb);have n1_:=Aside0.mk (blk_below (g:=gb139) (o:=.cells #[.string (⟨#[]⟩:ByteArray),.string (⟨#[]⟩:ByteArray)] 117 (0,0)) (by (with_reducible repeat (first|refine blk_drewN ?_ _|refine blk_drew ?_|refine blk_alloc ?_ _));exact BK139.out) hb);have n2_:=Aside0.mk (below_step (by repeat (first|(with_reducible first|exact HB.out|apply below_alloc|apply pw_below_drewN|apply below_drew1|refine below_set ?_ GE138.out|refine below_set ?_ GE139.out)|exact HB.out)) hb);have n3_:=Aside0.mk (hbox);have n4_:=Aside0.mk ((by rw [hg];exact (below_size (by repeat (first|(with_reducible first|exact HB.out|apply below_alloc|apply pw_below_drewN|apply below_drew1|refine below_set ?_ GE138.out|refine below_set ?_ GE139.out)|exact HB.out))):w.heap.size≤gb140));have n5_:=Aside0.mk ((by rw [hg];exact (below_size (by repeat (first|(with_reducible first|exact HB.out|apply below_alloc|apply pw_below_drewN|apply below_drew1|refine below_set ?_ GE138.out|refine below_set ?_ GE139.out)|exact HB.out))):w.heap.size≤gb140));have n6_:=Aside0.mk ((by rw [hg];exact Nat.ne_of_lt (blk_lt (g:=gb138) (o:=.cells #[.string a0_0,.string a0_1] 116 (0,0)) (by (with_reducible repeat (first|refine blk_drewN ?_ _|refine blk_drew ?_|refine blk_alloc ?_ _));exact BK138.out)):gb138≠gb140));have n7_:=Aside0.mk ((by rw [hg];exact Nat.ne_of_gt (blk_lt (g:=gb138) (o:=.cells #[.string a0_0,.string a0_1] 116 (0,0)) (by (with_reducible repeat (first|refine blk_drewN ?_ _|refine blk_drew ?_|refine blk_alloc ?_ _));exact BK138.out)):gb140≠gb138));have n8_:=Aside0.mk ((by rw [hg];exact Nat.ne_of_lt (blk_lt (g:=gb139) (o:=.cells #[.string (⟨#[]⟩:ByteArray),.string (⟨#[]⟩:ByteArray)] 117 (0,0)) (by (with_reducible repeat (first|refine blk_drewN ?_ _|refine blk_drew ?_|refine blk_alloc ?_ _));exact BK139.out)):gb139≠gb140));have n9_:=Aside0.mk ((by rw [hg];exact Nat.ne_of_gt (blk_lt (g:=gb139) (o:=.cells #[.string (⟨#[]⟩:ByteArray),.string (⟨#[]⟩:ByteArray)] 117 (0,0)) (by (with_reducible repeat (first|refine blk_drewN ?_ _|refine blk_drew ?_|refine blk_alloc ?_ _));exact BK139.out)):gb140≠gb139));clear BK138;clear BK139;clear HB;have BK138:=n0_;have BK139:=n1_;have HB:=n2_;have BK140:=n3_;have GW140:=n4_;have GE140:=n5_;have NB138_140:=n6_;have NB140_138:=n7_;have NB139_140:=n8_;have NB140_139:=n9_;clear n0_ n1_ n2_ n3_ n4_ n5_ n6_ n7_ n8_ n9_;clear hb hbox hg;have hnb5:=NB138_139.out;have hnc5:=NB139_138.out;have hnb6:=NB138_140.out;have hnc6:=NB140_138.out;have hcz7_0:w4.cell? ⟨gb138,0,none⟩=some (.string a0_0):=(blk_cell BK138.out 0).trans rfl;have hcz7_1:w4.cell? ⟨gb138,1,none⟩=some (.string a0_1):=(blk_cell BK138.out 1).trans rfl;have hfz7_0:=blk_frozen BK138.out 0;have hfz7_1:=blk_frozen BK138.out 1;have hnb8:=NB140_139.out;have hnc8:=NB139_140.out;have hcz9_0:w4.cell? ⟨gb140,0,none⟩=some (.string (⟨#[]⟩:ByteArray)):=(blk_cell BK140.out 0).trans rfl;have hcz9_1:w4.cell? ⟨gb140,1,none⟩=some (.string (⟨#[]⟩:ByteArray)):=(blk_cell BK140.out 1).trans rfl;have hfz9_0:=blk_frozen BK140.out 0;have hfz9_1:=blk_frozen BK140.out 1;have hcz10_0:w4.cell? ⟨gb139,0,none⟩=some (.string (⟨#[]⟩:ByteArray)):=(blk_cell BK139.out 0).trans rfl;have hcz10_1:w4.cell? ⟨gb139,1,none⟩=some (.string (⟨#[]⟩:ByteArray)):=(blk_cell BK139.out 1).trans rfl;have hfz10_0:=blk_frozen BK139.out 0;have hfz10_1:=blk_frozen BK139.out 1))
  refine bodyPost_ret (results_cell_row rfl _ _ gb139 117 #[.string a0_0,.string a0_1] (0,0) _ rfl (by (with_reducible repeat (first|refine blk_drewN ?_ _|refine blk_drew ?_|refine blk_alloc ?_ _));refine blk_put (cs:=#[.string a0_0,.string (⟨#[]⟩:ByteArray)]) ?_ 1 _ rfl;(with_reducible repeat (first|refine blk_drewN ?_ _|refine blk_drew ?_|refine blk_alloc ?_ _));refine blk_put (cs:=#[.string (⟨#[]⟩:ByteArray),.string (⟨#[]⟩:ByteArray)]) ?_ 0 _ rfl;(with_reducible repeat (first|refine blk_drewN ?_ _|refine blk_drew ?_|refine blk_alloc ?_ _));refine blk_far ?_ NB139_140.out _;(with_reducible repeat (first|refine blk_drewN ?_ _|refine blk_drew ?_|refine blk_alloc ?_ _));refine blk_far ?_ NB139_140.out _;(with_reducible repeat (first|refine blk_drewN ?_ _|refine blk_drew ?_|refine blk_alloc ?_ _));exact BK139.out) Tryd.underlying117 rfl (by kernel_rfl)) rfl ?_
  exact ⟨by first|rfl|(simp [errW_none,errW_some]<;>rfl)|(simp [*,errW_none,errW_some]<;>rfl),by repeat (first|(with_reducible first|exact HB.out|apply below_alloc|apply pw_below_drewN|apply below_drew1|refine below_set ?_ GE138.out|refine below_set ?_ GE139.out|refine below_set ?_ GE140.out)|exact HB.out)⟩
def laws_toWayS.l0:Nat→List (S116)→List (S117)→Int→Option ((List (S117)))
  | 0,_,_,_=>none
  | k+1,x0,x3,x4=>if x4 < (x0.length:Int) then (if 0≤x4 then ((laws_toWay.f ((rd_T116 x0 x4).f0) ((rd_T116 x0 x4).f1)).bind fun bt145=>(if x4 < (x3.length:Int) then (laws_toWayS.l0 k x0 (x3.set (x4:Int).toNat (⟨bt145.1,bt145.2⟩:S117)) (wrap64 (x4+1))) else (none))) else (none)) else (some x3)
def laws_toWayS.f (k:Nat) (l0:List (S116)):Option ((List (S117))):=if 0≤(l0.length:Int) then (if ((l0.length:Int):Int).toNat≤8796093022208 then (laws_toWayS.l0 k l0 (List.replicate ((l0.length:Int):Int).toNat z117) 0) else (none)) else (none)
set_option maxHeartbeats 8000000 in
set_option maxRecDepth 100000 in
theorem laws_toWayS.calls (k:Nat) (A0:Option Addr) (c0:Nat) (l0:List (S116)) (r:List (S117)) (w:World) (hr0:Kd.C k116 w A0 l0.length l0) (hc0:l0.length≤c0) (h:laws_toWayS.f k l0=some r) :
    Calls Tryd.prog 61 #[.slice A0 l0.length c0] w fun e w'=>∃ v0_:Value,e=.returned (v0_)∧Kd.R k117 117 w' w.heap.size (fun _=>True) v0_ r∧Below w.heap.size w w':=by
  have hu116:=Tryd.underlying116
  have hu117:=Tryd.underlying117
  have HR0:=Aside0.mk hr0
  have HC0:=Aside0.mk hc0
  clear hr0 hc0
  have HB:=Aside0.mk (Below.refl w.heap.size w)
  have H:(if 0≤(l0.length:Int) then (if ((l0.length:Int):Int).toNat≤8796093022208 then (laws_toWayS.l0 k l0 (List.replicate ((l0.length:Int):Int).toNat z117) 0) else (none)) else (none))=some r:=h
  clear h
  by_cases c2:0≤(l0.length:Int)
  · rw [if_pos c2] at H
    have c2b0:=eq_true c2
    have c2b1:decide (0≤(l0.length:Int))=true:=decide_eq_true c2
    clear c2
    by_cases c3:((l0.length:Int):Int).toNat≤8796093022208
    · rw [if_pos c3] at H
      have c3b0:=eq_true c3
      have c3b1:decide (((l0.length:Int):Int).toNat≤8796093022208)=true:=decide_eq_true c3
      clear c3
      obtain ⟨y141,hy141⟩:∃ y_:List (S117),y_=(List.replicate ((l0.length:Int):Int).toNat z117):=⟨_,rfl⟩
      replace H:(laws_toWayS.l0 k l0 y141 0)=some r:=by first|(rw [hy141];with_reducible exact H)|(have H2_:=(Option.bind_some _ _).symm.trans H;rw [hy141];with_reducible exact H2_)|(have H2_:=(Option.bind_some _ _).symm.trans H;with_reducible exact H2_)|with_reducible exact H|(rw [hy141];exact H)|exact H
      have Ny141:=Aside0.mk hy141
      clear hy141
      have H':=Aside0.mk H
      clear H
      go_enter Tryd.func61,Tryd.ntmps61
      go_wp2_with (first|((with_reducible refine gate_dst (N:=7) rfl ?_);refine Kd.R_make k117 _ 117 rfl (N:=7) rfl 42 _ _ rfl (l0.length:Int) rfl rfl Tryd.underlying42 (.agg #[(.string ⟨#[]⟩),(.string ⟨#[]⟩)]) 32 info117 rfl (by decide) (by omega) z117 (ok:=fun _=>True) (okp:=fun _=>True) (k117_mkM _ _ _ z117 ) (fun _ hk=>hk) trivial (of_decide_eq_true (by first|(with_reducible assumption)|assumption)) (Nat.le_trans (Nat.mul_le_mul_right _ (of_decide_eq_true (by first|(with_reducible assumption)|assumption):(l0.length:Int).toNat≤8796093022208)) (by omega)) (Below.refl _ _) (Nat.le_refl _) ?_;intro v142 w4 ho5 hb hg_ hnew_;clear hg_ hnew_;(first|rw [← Ny141.out] at ho5|(simp only [Int.reduceToNat] at ho5;rw [← Ny141.out] at ho5));have n0_:=Aside0.mk (Kd.R_lower ho5 (below_size (by repeat (first|(with_reducible first|exact HB.out|apply below_alloc|apply pw_below_drewN|apply below_drew1)|exact HB.out))));have n1_:=Aside0.mk (below_step (by repeat (first|(with_reducible first|exact HB.out|apply below_alloc|apply pw_below_drewN|apply below_drew1)|exact HB.out)) hb);clear HB;have HO143:=n0_;have HB:=n1_;clear n0_ n1_;clear hb ho5))
      go_loopg [4] k (fun kq v4 w'=>∃ (x3_1:List (S117)) (x4_1:Int),v4=.int .i64 x4_1∧Aside0 (laws_toWayS.l0 kq l0 x3_1 x4_1=some r)∧Aside0 (kq≤k)∧Aside0 (Kd.R k117 117 w' w.heap.size (fun _=>True) v142 x3_1)∧Aside0 (Below w.heap.size w w'))
      case atStart=>exact ⟨(y141),(0),(by first|rfl|(simp;done)|(simp [*];done)),H',⟨Nat.le_refl _⟩,⟨by (with_reducible repeat (first|apply Kd.R_alloc|apply Kd.R_drewN|apply Kd.R_drew));exact HO143.out⟩,⟨by repeat (first|(with_reducible first|exact HB.out|apply below_alloc|apply pw_below_drewN|apply below_drew1)|exact HB.out)⟩⟩
      case round =>
        clear H'
        try clear c2
        try clear c2b0
        try clear c2b1
        try clear p2
        try clear c3
        try clear c3b0
        try clear c3b1
        obtain ⟨x3_1,x4_1,rfl,HA,HK1,HO_3,HB⟩:=hrel
        cases gk with
        | zero=>exact absurd HA.out (by simp [laws_toWayS.l0])
        | succ k1 =>
          have H:=HA.out
          clear HA
          simp only [laws_toWayS.l0] at H
          by_cases c6:x4_1 < (l0.length:Int)
          · rw [if_pos c6] at H
            have c6b0:decide (x4_1 < (l0.length:Int))=true:=decide_eq_true c6
            clear c6
            by_cases c7:0≤x4_1
            · rw [if_pos c7] at H
              have c7b0:decide (0≤x4_1)=true:=decide_eq_true c7
              clear c7
              replace H:=Option.bind_eq_some_iff.mp H
              obtain ⟨⟨t145,t146⟩,A80,H⟩:=H
              replace H:(if x4_1 < (x3_1.length:Int) then (laws_toWayS.l0 k1 l0 (x3_1.set (x4_1:Int).toNat (⟨t145,t146⟩:S117)) (wrap64 (x4_1+1))) else (none))=some r:=H
              have A8:=Aside0.mk A80
              clear A80
              by_cases c9:x4_1 < (x3_1.length:Int)
              · rw [if_pos c9] at H
                have c9b0:decide (x4_1 < (x3_1.length:Int))=true:=decide_eq_true c9
                clear c9
                obtain ⟨y147,hy147⟩:∃ y_:List (S117),y_=(x3_1.set (x4_1:Int).toNat (⟨t145,t146⟩:S117)):=⟨_,rfl⟩
                replace H:(laws_toWayS.l0 k1 l0 y147 (wrap64 (x4_1+1)))=some r:=by first|(rw [hy147];with_reducible exact H)|(have H2_:=(Option.bind_some _ _).symm.trans H;rw [hy147];with_reducible exact H2_)|(have H2_:=(Option.bind_some _ _).symm.trans H;with_reducible exact H2_)|with_reducible exact H|(rw [hy147];exact H)|exact H
                have Ny147:=Aside0.mk hy147
                clear hy147
                have H':=Aside0.mk H
                clear H
                have p144:0≤(x4_1:Int):=of_decide_eq_true (by first|(with_reducible assumption)|assumption)
                have q144:x4_1 < (l0.length:Int):=of_decide_eq_true (by first|(with_reducible assumption)|assumption)
                obtain ⟨ad144,e144,hx144_0,hx144_1⟩:=at_T116 HR0.out x4_1 p144 q144
                cases e144
                replace hx144_0:=(HB.out.cell (World.block_lt_of_cell? w _ hx144_0)).trans hx144_0
                replace hx144_1:=(HB.out.cell (World.block_lt_of_cell? w _ hx144_1)).trans hx144_1
                replace p144:=eq_true p144
                replace q144:=eq_true q144
                go_wp2_with (first|((with_reducible refine gate_callee (f:=103) rfl ?_);refine goesL_ (some 20) rfl rfl Tryd.func103 (by kernel_rfl) rfl #[.agg #[.string ((rd_T116 l0 x4_1).f0),.string ((rd_T116 l0 x4_1).f1)]] rfl (by (try simp only [List.map_toArray,List.map_cons,List.map_nil]);first|done|rfl|(simp only [List.length_drop,List.length_take];rfl)) ?_;(with_reducible refine (laws_toWay.calls ((rd_T116 l0 x4_1).f0) ((rd_T116 l0 x4_1).f1) t145 t146 _ A8.out).mono ?_);rintro e w11 ⟨rfl,hb⟩;refine ⟨_,rfl,?_⟩;have n0_:=Aside0.mk (Kd.R_below (by (with_reducible repeat (first|apply Kd.R_alloc|apply Kd.R_drewN|apply Kd.R_drew));exact HO_3.out) hb);have n1_:=Aside0.mk (below_step (by repeat (first|(with_reducible first|exact HB.out|apply below_alloc|apply pw_below_drewN|apply below_drew1)|exact HB.out)) hb);clear HO_3;clear HB;have HO_3:=n0_;have HB:=n1_;clear n0_ n1_;(try clear hb);(try clear hb2);(try clear hk);(try clear hi);have p10:0≤(x4_1:Int):=of_decide_eq_true (by first|(with_reducible assumption)|assumption);have q10:(x4_1:Int) < ((x3_1.length:Int):Int):=of_decide_eq_true (by first|(with_reducible assumption)|assumption);obtain ⟨go10,co10,eo10,gb10,gl10,cl10,HG10⟩:=Kd.R_form HO_3.out (by omega);(first|cases eo10|(injection eo10 with ea_ en_ ec_;(first|subst ea_|(injection ea_ with ea_;subst ea_));subst ec_;clear en_));have GB10:=Aside0.mk gb10;have GG10:=Aside0.mk HG10;clear gb10 gl10 HG10;obtain ⟨ce10,hcl10,hM10,hcc10,hfr10⟩:=Kd.R_elem HO_3.out z117 (x4_1:Int) p10 q10;obtain rfl:=k117_openM hM10;have hx10_0:w11.cell? ⟨go10,(x4_1:Int).toNat * 2,none⟩=some (.string ((rd_T117 x3_1 x4_1).f0)):=hcc10 0 _ rfl;have hx10_1:w11.cell? ⟨go10,(x4_1:Int).toNat * 2+1,none⟩=some (.string ((rd_T117 x3_1 x4_1).f1)):=hcc10 1 _ rfl;have hf10_0:w11.frozen? ⟨go10,(x4_1:Int).toNat * 2,none⟩=false:=hfr10 0;have hf10_1:w11.frozen? ⟨go10,(x4_1:Int).toNat * 2+1,none⟩=false:=hfr10 1;clear hcl10 hcc10 hfr10 hM10;replace p10:=eq_true p10;replace q10:=eq_true q10;have HX12:=Aside0.mk (show Kd.R k117 117 w11 w.heap.size (fun _=>True) (.slice (some ⟨go10,0,none⟩) x3_1.length co10) x3_1 from (by (with_reducible repeat (first|apply Kd.R_alloc|apply Kd.R_drewN|apply Kd.R_drew));exact HO_3.out));obtain ⟨ce12,hcl12,hM12,hcc12,hfr12⟩:=Kd.R_elem HX12.out z117 (x4_1:Int) (of_decide_eq_true (by first|(with_reducible assumption)|assumption)) (by have h_:(x4_1:Int) < ((x3_1.length:Int):Int):=of_decide_eq_true (by first|(with_reducible assumption)|assumption);first|exact h_|(have e_:=(Kd.R_reads' HO_3.out).1;omega)|simpa using h_);obtain rfl:=k117_openM hM12;have HP12:=Kd.R_seg HX12.out (x4_1:Int) (of_decide_eq_true (by first|(with_reducible assumption)|assumption)) (by have h_:(x4_1:Int) < ((x3_1.length:Int):Int):=of_decide_eq_true (by first|(with_reducible assumption)|assumption);first|exact h_|(have e_:=(Kd.R_reads' HO_3.out).1;omega)|simpa using h_) (seg:=[.string t145,.string t146]) (j:=0) hcl12 hcc12 (show 2≤2 from by decide) (x':=(⟨t145,t146⟩:S117)) (k117_mkM _ _ _ (⟨t145,t146⟩:S117) ) (fun _ hk=>hk);have hx12_0:=hcc12 0 _ rfl;(try simp only [show (k117).sz=2 from rfl,Nat.mul_one,Nat.add_zero] at hx12_0);have hf12_0:=hfr12 0;(try simp only [show (k117).sz=2 from rfl,Nat.mul_one,Nat.add_zero] at hf12_0);have hx12_1:=hcc12 1 _ rfl;(try simp only [show (k117).sz=2 from rfl,Nat.mul_one,Nat.add_zero] at hx12_1);have hf12_1:=hfr12 1;(try simp only [show (k117).sz=2 from rfl,Nat.mul_one,Nat.add_zero] at hf12_1);clear hcl12 hcc12 hfr12 hM12)|((with_reducible refine gate_store (t:=117) (p:=21) rfl ?_);refine store_event (t:=117) (p:=21) (v:=?vo_w13) (w1:=((w11.setCell ⟨go10,(x4_1:Int).toNat * 2,none⟩ (.string t145)).setCell ⟨go10,(x4_1:Int).toNat * 2+1,none⟩ (.string t146))) ?hg ?ho ?hn ?hr ?_;(case ho=>rfl);(case hg=>rfl);(case hn=>rfl);(case hr=>first|(go_simp;done)|(go_simp;rfl));intro w13 hw;have hg:w11.grownBy w13 (some go10):=(by rw [hw];exact HP12.2);have hp_:Kd.R k117 117 w13 w.heap.size (fun _=>True) (.slice (some ⟨go10,0,none⟩) x3_1.length co10) y147:=(by rw [hw,Ny147.out];exact HP12.1);clear HP12;have n0_:=Aside0.mk (hp_);have n1_:=Aside0.mk ((by rw [hw];exact below_set (below_set (HB.out) GB10.out) GB10.out:Below w.heap.size w w13));clear HO_3;clear HB;have HO_3:=n0_;have HB:=n1_;clear n0_ n1_;clear hg hw hp_))
                go_roundg k1
                case measure=>have:=HK1.out;omega
                case rel=>exact ⟨(y147),(wrap64 (x4_1+1)),(by first|rfl|(simp;done)|(simp [*];done)),H',⟨by have:=HK1.out;omega⟩,⟨by (with_reducible repeat (first|apply Kd.R_alloc|apply Kd.R_drewN|apply Kd.R_drew));exact HO_3.out⟩,⟨by repeat (first|(with_reducible first|exact HB.out|apply below_alloc|apply pw_below_drewN|apply below_drew1)|exact HB.out)⟩⟩
              · rw [if_neg c9] at H
                exact absurd H (by simp)
            · rw [if_neg c7] at H
              exact absurd H (by simp)
          · rw [if_neg c6] at H
            have c6b0:decide (x4_1 < (l0.length:Int))=false:=decide_eq_false c6
            clear c6
            obtain rfl:=Option.some.inj H
            go_wp2
            go_ret
            exact ⟨_,by first|rfl|(simp [errW_none,errW_some]<;>rfl)|(simp [*,errW_none,errW_some]<;>rfl),by (with_reducible repeat (first|apply Kd.R_alloc|apply Kd.R_drewN|apply Kd.R_drew));exact HO_3.out,by repeat (first|(with_reducible first|exact HB.out|apply below_alloc|apply pw_below_drewN|apply below_drew1)|exact HB.out)⟩
    · rw [if_neg c3] at H
      exact absurd H (by simp)
  · rw [if_neg c2] at H
    exact absurd H (by simp)
def laws_toConf.f (k:Nat) (a0_0:ByteArray) (l0_1:List ByteArray) (l0_2:List (S116)):Option (ByteArray × List ByteArray × (List (S117))):=(laws_toStringS.f k l0_1).bind fun t151=>((laws_toWayS.f k l0_2).bind fun t154=>(some (a0_0,t151,t154)))
set_option maxHeartbeats 8000000 in
set_option maxRecDepth 100000 in
theorem laws_toConf.calls (k:Nat) (a0_0:ByteArray) (A0_1:Option Addr) (c0_1:Nat) (l0_1:List ByteArray) (A0_2:Option Addr) (c0_2:Nat) (l0_2:List (S116)) (r1:ByteArray) (r2:List ByteArray) (r3:List (S117)) (w:World) (hr0_1:Kd.C Kd.string w A0_1 l0_1.length l0_1) (hc0_1:l0_1.length≤c0_1) (hr0_2:Kd.C k116 w A0_2 l0_2.length l0_2) (hc0_2:l0_2.length≤c0_2) (h:laws_toConf.f k a0_0 l0_1 l0_2=some (r1,r2,r3)) :
    Calls Tryd.prog 17 #[.agg #[.string a0_0,.slice A0_1 l0_1.length c0_1,.slice A0_2 l0_2.length c0_2]] w fun e w'=>∃ v1_ v2_:Value,e=.returned (.agg #[.string r1,v1_,v2_])∧Kd.R Kd.string 9 w' w.heap.size (fun _=>True) v1_ r2∧Kd.R k117 117 w' w.heap.size (fun _=>True) v2_ r3∧Below w.heap.size w w':=by
  have hu39:=Tryd.underlying39
  have hu44:=Tryd.underlying44
  have HR0_1:=Aside0.mk hr0_1
  have HC0_1:=Aside0.mk hc0_1
  clear hr0_1 hc0_1
  have HR0_2:=Aside0.mk hr0_2
  have HC0_2:=Aside0.mk hc0_2
  clear hr0_2 hc0_2
  have HB:=Aside0.mk (Below.refl w.heap.size w)
  have H:((laws_toStringS.f k l0_1).bind fun t151=>((laws_toWayS.f k l0_2).bind fun t154=>(some (a0_0,t151,t154))))=some (r1,r2,r3):=h
  clear h
  replace H:=Option.bind_eq_some_iff.mp H
  obtain ⟨t151,A20,H⟩:=H
  replace H:((laws_toWayS.f k l0_2).bind fun t154=>(some (a0_0,t151,t154)))=some (r1,r2,r3):=H
  have A2:=Aside0.mk A20
  clear A20
  replace H:=Option.bind_eq_some_iff.mp H
  obtain ⟨t154,A30,H⟩:=H
  replace H:(some (a0_0,t151,t154))=some (r1,r2,r3):=H
  have A3:=Aside0.mk A30
  clear A30
  simp only [Option.some.injEq,Prod.mk.injEq] at H
  obtain ⟨rfl,rfl,rfl⟩:=H
  go_enter Tryd.func17,Tryd.ntmps17
  go_wp2_with (first|((with_reducible refine gate_dst (N:=1) rfl ?_);refine box_event ?hg (N:=1) ?hd (cs:=#[.string a0_0,.slice A0_1 l0_1.length c0_1,.slice A0_2 l0_2.length c0_2]) (t:=39) ?hr ?_;(case hd=>rfl);(case hg=>rfl);(case hr=>first|(go_simp;done)|(go_simp;rfl));intro gb148 hg w4 hbox hb;have n0_:=Aside0.mk (below_step (by repeat (first|(with_reducible first|exact HB.out|apply below_alloc|apply pw_below_drewN|apply below_drew1)|exact HB.out)) hb);have n1_:=Aside0.mk (hbox);have n2_:=Aside0.mk ((by rw [hg];exact (below_size (by repeat (first|(with_reducible first|exact HB.out|apply below_alloc|apply pw_below_drewN|apply below_drew1)|exact HB.out))):w.heap.size≤gb148));have n3_:=Aside0.mk ((by rw [hg];exact (below_size (by repeat (first|(with_reducible first|exact HB.out|apply below_alloc|apply pw_below_drewN|apply below_drew1)|exact HB.out))):w.heap.size≤gb148));clear HB;have HB:=n0_;have BK148:=n1_;have GW148:=n2_;have GE148:=n3_;clear n0_ n1_ n2_ n3_;clear hb hbox hg)|((with_reducible refine gate_dst (N:=2) rfl ?_);refine box_event ?hg (N:=2) ?hd (cs:=#[.string (⟨#[]⟩:ByteArray),.slice none 0 0,.slice none 0 0]) (t:=44) ?hr ?_;(case hd=>rfl);(case hg=>rfl);(case hr=>first|(go_simp;done)|(go_simp;rfl));intro gb149 hg w5 hbox hb;have n0_:=Aside0.mk (blk_below (g:=gb148) (o:=.cells #[.string a0_0,.slice A0_1 l0_1.length c0_1,.slice A0_2 l0_2.length c0_2] 39 (0,0)) (by (with_reducible repeat (first|refine blk_drewN ?_ _|refine blk_drew ?_|refine blk_alloc ?_ _));exact BK148.out) hb);have n1_:=Aside0.mk (below_step (by repeat (first|(with_reducible first|exact HB.out|apply below_alloc|apply pw_below_drewN|apply below_drew1|refine below_set ?_ GE148.out)|exact HB.out)) hb);have n2_:=Aside0.mk (hbox);have n3_:=Aside0.mk ((by rw [hg];exact (below_size (by repeat (first|(with_reducible first|exact HB.out|apply below_alloc|apply pw_below_drewN|apply below_drew1|refine below_set ?_ GE148.out)|exact HB.out))):w.heap.size≤gb149));have n4_:=Aside0.mk ((by rw [hg];exact (below_size (by repeat (first|(with_reducible first|exact HB.out|apply below_alloc|apply pw_below_drewN|apply below_drew1|refine below_set ?_ GE148.out)|exact HB.out))):w.heap.size≤gb149));have n5_:=Aside0.mk ((by rw [hg];exact Nat.ne_of_lt (blk_lt (g:=gb148) (o:=.cells #[.string a0_0,.slice A0_1 l0_1.length c0_1,.slice A0_2 l0_2.length c0_2] 39 (0,0)) (by (with_reducible repeat (first|refine blk_drewN ?_ _|refine blk_drew ?_|refine blk_alloc ?_ _));exact BK148.out)):gb148≠gb149));have n6_:=Aside0.mk ((by rw [hg];exact Nat.ne_of_gt (blk_lt (g:=gb148) (o:=.cells #[.string a0_0,.slice A0_1 l0_1.length c0_1,.slice A0_2 l0_2.length c0_2] 39 (0,0)) (by (with_reducible repeat (first|refine blk_drewN ?_ _|refine blk_drew ?_|refine blk_alloc ?_ _));exact BK148.out)):gb149≠gb148));clear BK148;clear HB;have BK148:=n0_;have HB:=n1_;have BK149:=n2_;have GW149:=n3_;have GE149:=n4_;have NB148_149:=n5_;have NB149_148:=n6_;clear n0_ n1_ n2_ n3_ n4_ n5_ n6_;clear hb hbox hg)|((with_reducible refine gate_dst (N:=3) rfl ?_);refine box_event ?hg (N:=3) ?hd (cs:=#[.string (⟨#[]⟩:ByteArray),.slice none 0 0,.slice none 0 0]) (t:=44) ?hr ?_;(case hd=>rfl);(case hg=>rfl);(case hr=>first|(go_simp;done)|(go_simp;rfl));intro gb150 hg w6 hbox hb;have n0_:=Aside0.mk (blk_below (g:=gb148) (o:=.cells #[.string a0_0,.slice A0_1 l0_1.length c0_1,.slice A0_2 l0_2.length c0_2] 39 (0,0)) (by (with_reducible repeat (first|refine blk_drewN ?_ _|refine blk_drew ?_|refine blk_alloc ?_ _));exact BK148.out) hb);have n1_:=Aside0.mk (blk_below (g:=gb149) (o:=.cells #[.string (⟨#[]⟩:ByteArray),.slice none 0 0,.slice none 0 0] 44 (0,0)) (by (with_reducible repeat (first|refine blk_drewN ?_ _|refine blk_drew ?_|refine blk_alloc ?_ _));exact BK149.out) hb);have n2_:=Aside0.mk (below_step (by repeat (first|(with_reducible first|exact HB.out|apply below_alloc|apply pw_below_drewN|apply below_drew1|refine below_set ?_ GE148.out|refine below_set ?_ GE149.out)|exact HB.out)) hb);have n3_:=Aside0.mk (hbox);have n4_:=Aside0.mk ((by rw [hg];exact (below_size (by repeat (first|(with_reducible first|exact HB.out|apply below_alloc|apply pw_below_drewN|apply below_drew1|refine below_set ?_ GE148.out|refine below_set ?_ GE149.out)|exact HB.out))):w.heap.size≤gb150));have n5_:=Aside0.mk ((by rw [hg];exact (below_size (by repeat (first|(with_reducible first|exact HB.out|apply below_alloc|apply pw_below_drewN|apply below_drew1|refine below_set ?_ GE148.out|refine below_set ?_ GE149.out)|exact HB.out))):w.heap.size≤gb150));have n6_:=Aside0.mk ((by rw [hg];exact Nat.ne_of_lt (blk_lt (g:=gb148) (o:=.cells #[.string a0_0,.slice A0_1 l0_1.length c0_1,.slice A0_2 l0_2.length c0_2] 39 (0,0)) (by (with_reducible repeat (first|refine blk_drewN ?_ _|refine blk_drew ?_|refine blk_alloc ?_ _));exact BK148.out)):gb148≠gb150));have n7_:=Aside0.mk ((by rw [hg];exact Nat.ne_of_gt (blk_lt (g:=gb148) (o:=.cells #[.string a0_0,.slice A0_1 l0_1.length c0_1,.slice A0_2 l0_2.length c0_2] 39 (0,0)) (by (with_reducible repeat (first|refine blk_drewN ?_ _|refine blk_drew ?_|refine blk_alloc ?_ _));exact BK148.out)):gb150≠gb148));have n8_:=Aside0.mk ((by rw [hg];exact Nat.ne_of_lt (blk_lt (g:=gb149) (o:=.cells #[.string (⟨#[]⟩:ByteArray),.slice none 0 0,.slice none 0 0] 44 (0,0)) (by (with_reducible repeat (first|refine blk_drewN ?_ _|refine blk_drew ?_|refine blk_alloc ?_ _));exact BK149.out)):gb149≠gb150));have n9_:=Aside0.mk ((by rw [hg];exact Nat.ne_of_gt (blk_lt (g:=gb149) (o:=.cells #[.string (⟨#[]⟩:ByteArray),.slice none 0 0,.slice none 0 0] 44 (0,0)) (by (with_reducible repeat (first|refine blk_drewN ?_ _|refine blk_drew ?_|refine blk_alloc ?_ _));exact BK149.out)):gb150≠gb149));clear BK148;clear BK149;clear HB;have BK148:=n0_;have BK149:=n1_;have HB:=n2_;have BK150:=n3_;have GW150:=n4_;have GE150:=n5_;have NB148_150:=n6_;have NB150_148:=n7_;have NB149_150:=n8_;have NB150_149:=n9_;clear n0_ n1_ n2_ n3_ n4_ n5_ n6_ n7_ n8_ n9_;clear hb hbox hg;have hnb7:=NB148_149.out;have hnc7:=NB149_148.out;have hnb8:=NB148_150.out;have hnc8:=NB150_148.out;have hcz9_0:w6.cell? ⟨gb148,0,none⟩=some (.string a0_0):=(blk_cell BK148.out 0).trans rfl;have hcz9_1:w6.cell? ⟨gb148,1,none⟩=some (.slice A0_1 l0_1.length c0_1):=(blk_cell BK148.out 1).trans rfl;have hcz9_2:w6.cell? ⟨gb148,2,none⟩=some (.slice A0_2 l0_2.length c0_2):=(blk_cell BK148.out 2).trans rfl;have hfz9_0:=blk_frozen BK148.out 0;have hfz9_1:=blk_frozen BK148.out 1;have hfz9_2:=blk_frozen BK148.out 2;have hnb10:=NB150_149.out;have hnc10:=NB149_150.out;have hcz11_0:w6.cell? ⟨gb150,0,none⟩=some (.string (⟨#[]⟩:ByteArray)):=(blk_cell BK150.out 0).trans rfl;have hcz11_1:w6.cell? ⟨gb150,1,none⟩=some (.slice none 0 0):=(blk_cell BK150.out 1).trans rfl;have hcz11_2:w6.cell? ⟨gb150,2,none⟩=some (.slice none 0 0):=(blk_cell BK150.out 2).trans rfl;have hfz11_0:=blk_frozen BK150.out 0;have hfz11_1:=blk_frozen BK150.out 1;have hfz11_2:=blk_frozen BK150.out 2)|((with_reducible refine gate_callee (f:=45) rfl ?_);refine goesL_ (some 9) rfl rfl Tryd.func45 (by kernel_rfl) rfl #[.slice A0_1 l0_1.length c0_1] rfl (by (try simp only [List.map_toArray,List.map_cons,List.map_nil]);first|done|rfl|(simp only [List.length_drop,List.length_take];rfl)) ?_;(with_reducible refine (laws_toStringS.calls k _ _ l0_1 t151 _ ?side1 ?side2 A2.out).mono ?_);(case side1=>exact Kd.C_below HR0_1.out (by repeat (first|(with_reducible first|exact HB.out|apply below_alloc|apply pw_below_drewN|apply below_drew1|refine below_set ?_ GE148.out|refine below_set ?_ GE149.out|refine below_set ?_ GE150.out)|exact HB.out)));(case side2=>exact HC0_1.out);rintro e w12 ⟨v152,rfl,ho0,hb⟩;refine ⟨_,rfl,?_⟩;have n0_:=Aside0.mk (Kd.R_lower ho0 (below_size (by repeat (first|(with_reducible first|exact HB.out|apply below_alloc|apply pw_below_drewN|apply below_drew1|refine below_set ?_ GE148.out|refine below_set ?_ GE149.out|refine below_set ?_ GE150.out)|exact HB.out))));have n1_:=Aside0.mk (blk_below (g:=gb148) (o:=.cells #[.string a0_0,.slice A0_1 l0_1.length c0_1,.slice A0_2 l0_2.length c0_2] 39 (0,0)) (by (with_reducible repeat (first|refine blk_drewN ?_ _|refine blk_drew ?_|refine blk_alloc ?_ _));refine blk_far ?_ NB148_150.out _;(with_reducible repeat (first|refine blk_drewN ?_ _|refine blk_drew ?_|refine blk_alloc ?_ _));exact BK148.out) hb);have n2_:=Aside0.mk (blk_below (g:=gb149) (o:=.cells #[.string (⟨#[]⟩:ByteArray),.slice none 0 0,.slice none 0 0] 44 (0,0)) (by (with_reducible repeat (first|refine blk_drewN ?_ _|refine blk_drew ?_|refine blk_alloc ?_ _));refine blk_far ?_ NB149_150.out _;(with_reducible repeat (first|refine blk_drewN ?_ _|refine blk_drew ?_|refine blk_alloc ?_ _));exact BK149.out) hb);have n3_:=Aside0.mk (blk_below (g:=gb150) (o:=.cells #[.string a0_0,.slice none 0 0,.slice none 0 0] 44 (0,0)) (by (with_reducible repeat (first|refine blk_drewN ?_ _|refine blk_drew ?_|refine blk_alloc ?_ _));refine blk_put (cs:=#[.string (⟨#[]⟩:ByteArray),.slice none 0 0,.slice none 0 0]) ?_ 0 _ rfl;(with_reducible repeat (first|refine blk_drewN ?_ _|refine blk_drew ?_|refine blk_alloc ?_ _));exact BK150.out) hb);have n4_:=Aside0.mk (below_step (by repeat (first|(with_reducible first|exact HB.out|apply below_alloc|apply pw_below_drewN|apply below_drew1|refine below_set ?_ GE148.out|refine below_set ?_ GE149.out|refine below_set ?_ GE150.out)|exact HB.out)) hb);clear BK148;clear BK149;clear BK150;clear HB;have HO153:=n0_;have BK148:=n1_;have BK149:=n2_;have BK150:=n3_;have HB:=n4_;clear n0_ n1_ n2_ n3_ n4_;(try clear hb);(try clear hb2);(try clear hk);(try clear hi);(try clear ho0);obtain ⟨Ao13,co13,eo13⟩:=Kd.R_slice HO153.out;subst eo13;have hcz14_0:w12.cell? ⟨gb150,0,none⟩=some (.string a0_0):=(blk_cell BK150.out 0).trans rfl;have hcz14_1:w12.cell? ⟨gb150,1,none⟩=some (.slice none 0 0):=(blk_cell BK150.out 1).trans rfl;have hcz14_2:w12.cell? ⟨gb150,2,none⟩=some (.slice none 0 0):=(blk_cell BK150.out 2).trans rfl;have hfz14_0:=blk_frozen BK150.out 0;have hfz14_1:=blk_frozen BK150.out 1;have hfz14_2:=blk_frozen BK150.out 2;have hcz15_0:w12.cell? ⟨gb148,0,none⟩=some (.string a0_0):=(blk_cell BK148.out 0).trans rfl;have hcz15_1:w12.cell? ⟨gb148,1,none⟩=some (.slice A0_1 l0_1.length c0_1):=(blk_cell BK148.out 1).trans rfl;have hcz15_2:w12.cell? ⟨gb148,2,none⟩=some (.slice A0_2 l0_2.length c0_2):=(blk_cell BK148.out 2).trans rfl;have hfz15_0:=blk_frozen BK148.out 0;have hfz15_1:=blk_frozen BK148.out 1;have hfz15_2:=blk_frozen BK148.out 2)|((with_reducible refine gate_callee (f:=61) rfl ?_);refine goesL_ (some 13) rfl rfl Tryd.func61 (by kernel_rfl) rfl #[.slice A0_2 l0_2.length c0_2] rfl (by (try simp only [List.map_toArray,List.map_cons,List.map_nil]);first|done|rfl|(simp only [List.length_drop,List.length_take];rfl)) ?_;(with_reducible refine (laws_toWayS.calls k _ _ l0_2 t154 _ ?side1 ?side2 A3.out).mono ?_);(case side1=>exact Kd.C_below HR0_2.out (by repeat (first|(with_reducible first|exact HB.out|apply below_alloc|apply pw_below_drewN|apply below_drew1|refine below_set ?_ GE148.out|refine below_set ?_ GE149.out|refine below_set ?_ GE150.out)|exact HB.out)));(case side2=>exact HC0_2.out);rintro e w16 ⟨v155,rfl,ho0,hb⟩;refine ⟨_,rfl,?_⟩;have n0_:=Aside0.mk (Kd.R_below (by (with_reducible repeat (first|apply Kd.R_alloc|apply Kd.R_drewN|apply Kd.R_drew));exact (Kd.R_mono (Kd.R_far (p:=⟨gb150,1,none⟩) (Kd.R_types HO153.out BK150.out (by decide)) (fun _ hk=>hk.2) (.slice Ao13 t151.length co13)) (fun _ h_=>h_.1))) hb);have n1_:=Aside0.mk (Kd.R_lower ho0 (below_size (by repeat (first|(with_reducible first|exact HB.out|apply below_alloc|apply pw_below_drewN|apply below_drew1|refine below_set ?_ GE148.out|refine below_set ?_ GE149.out|refine below_set ?_ GE150.out)|exact HB.out))));have n2_:=Aside0.mk (blk_below (g:=gb148) (o:=.cells #[.string a0_0,.slice A0_1 l0_1.length c0_1,.slice A0_2 l0_2.length c0_2] 39 (0,0)) (by (with_reducible repeat (first|refine blk_drewN ?_ _|refine blk_drew ?_|refine blk_alloc ?_ _));refine blk_far ?_ NB148_150.out _;(with_reducible repeat (first|refine blk_drewN ?_ _|refine blk_drew ?_|refine blk_alloc ?_ _));exact BK148.out) hb);have n3_:=Aside0.mk (blk_below (g:=gb149) (o:=.cells #[.string (⟨#[]⟩:ByteArray),.slice none 0 0,.slice none 0 0] 44 (0,0)) (by (with_reducible repeat (first|refine blk_drewN ?_ _|refine blk_drew ?_|refine blk_alloc ?_ _));refine blk_far ?_ NB149_150.out _;(with_reducible repeat (first|refine blk_drewN ?_ _|refine blk_drew ?_|refine blk_alloc ?_ _));exact BK149.out) hb);have n4_:=Aside0.mk (blk_below (g:=gb150) (o:=.cells #[.string a0_0,.slice Ao13 t151.length co13,.slice none 0 0] 44 (0,0)) (by (with_reducible repeat (first|refine blk_drewN ?_ _|refine blk_drew ?_|refine blk_alloc ?_ _));refine blk_put (cs:=#[.string a0_0,.slice none 0 0,.slice none 0 0]) ?_ 1 _ rfl;(with_reducible repeat (first|refine blk_drewN ?_ _|refine blk_drew ?_|refine blk_alloc ?_ _));exact BK150.out) hb);have n5_:=Aside0.mk (below_step (by repeat (first|(with_reducible first|exact HB.out|apply below_alloc|apply pw_below_drewN|apply below_drew1|refine below_set ?_ GE148.out|refine below_set ?_ GE149.out|refine below_set ?_ GE150.out)|exact HB.out)) hb);clear HO153;clear BK148;clear BK149;clear BK150;clear HB;have HO153:=n0_;have HO156:=n1_;have BK148:=n2_;have BK149:=n3_;have BK150:=n4_;have HB:=n5_;clear n0_ n1_ n2_ n3_ n4_ n5_;(try clear hb);(try clear hb2);(try clear hk);(try clear hi);(try clear ho0);obtain ⟨Ao17,co17,eo17⟩:=Kd.R_slice HO156.out;subst eo17;have hcz18_0:w16.cell? ⟨gb150,0,none⟩=some (.string a0_0):=(blk_cell BK150.out 0).trans rfl;have hcz18_1:w16.cell? ⟨gb150,1,none⟩=some (.slice Ao13 t151.length co13):=(blk_cell BK150.out 1).trans rfl;have hcz18_2:w16.cell? ⟨gb150,2,none⟩=some (.slice none 0 0):=(blk_cell BK150.out 2).trans rfl;have hfz18_0:=blk_frozen BK150.out 0;have hfz18_1:=blk_frozen BK150.out 1;have hfz18_2:=blk_frozen BK150.out 2;have hcz19_0:w16.cell? ⟨gb149,0,none⟩=some (.string (⟨#[]⟩:ByteArray)):=(blk_cell BK149.out 0).trans rfl;have hcz19_1:w16.cell? ⟨gb149,1,none⟩=some (.slice none 0 0):=(blk_cell BK149.out 1).trans rfl;have hcz19_2:w16.cell? ⟨gb149,2,none⟩=some (.slice none 0 0):=(blk_cell BK149.out 2).trans rfl;have hfz19_0:=blk_frozen BK149.out 0;have hfz19_1:=blk_frozen BK149.out 1;have hfz19_2:=blk_frozen BK149.out 2))
  refine bodyPost_ret (results_cell_row rfl _ _ gb149 44 #[.string a0_0,.slice Ao13 t151.length co13,.slice Ao17 t154.length co17] (0,0) _ rfl (by (with_reducible repeat (first|refine blk_drewN ?_ _|refine blk_drew ?_|refine blk_alloc ?_ _));refine blk_put (cs:=#[.string a0_0,.slice Ao13 t151.length co13,.slice none 0 0]) ?_ 2 _ rfl;(with_reducible repeat (first|refine blk_drewN ?_ _|refine blk_drew ?_|refine blk_alloc ?_ _));refine blk_put (cs:=#[.string a0_0,.slice none 0 0,.slice none 0 0]) ?_ 1 _ rfl;(with_reducible repeat (first|refine blk_drewN ?_ _|refine blk_drew ?_|refine blk_alloc ?_ _));refine blk_put (cs:=#[.string (⟨#[]⟩:ByteArray),.slice none 0 0,.slice none 0 0]) ?_ 0 _ rfl;(with_reducible repeat (first|refine blk_drewN ?_ _|refine blk_drew ?_|refine blk_alloc ?_ _));refine blk_far ?_ NB149_150.out _;(with_reducible repeat (first|refine blk_drewN ?_ _|refine blk_drew ?_|refine blk_alloc ?_ _));exact BK149.out) Tryd.underlying44 rfl (by kernel_rfl)) rfl ?_
  exact ⟨_,_,by first|rfl|(simp [errW_none,errW_some]<;>rfl)|(simp [*,errW_none,errW_some]<;>rfl),by (with_reducible repeat (first|apply Kd.R_alloc|apply Kd.R_drewN|apply Kd.R_drew));exact Kd.R_mono (Kd.R_far (p:=⟨gb149,2,none⟩) (Kd.R_far (p:=⟨gb149,1,none⟩) (Kd.R_far (p:=⟨gb149,0,none⟩) (Kd.R_far (p:=⟨gb150,2,none⟩) (Kd.R_types (Kd.R_types HO153.out BK150.out (by decide)) BK149.out (by decide)) (fun _ hk=>hk.1.2) (.slice Ao17 t154.length co17)) (fun _ hk=>hk.2) (.string a0_0)) (fun _ hk=>hk.2) (.slice Ao13 t151.length co13)) (fun _ hk=>hk.2) (.slice Ao17 t154.length co17)) (fun _ hk=>trivial),by (with_reducible repeat (first|apply Kd.R_alloc|apply Kd.R_drewN|apply Kd.R_drew));exact Kd.R_mono (Kd.R_far (p:=⟨gb149,2,none⟩) (Kd.R_far (p:=⟨gb149,1,none⟩) (Kd.R_far (p:=⟨gb149,0,none⟩) (Kd.R_far (p:=⟨gb150,2,none⟩) (Kd.R_types (Kd.R_types HO156.out BK150.out (by decide)) BK149.out (by decide)) (fun _ hk=>hk.1.2) (.slice Ao17 t154.length co17)) (fun _ hk=>hk.2) (.string a0_0)) (fun _ hk=>hk.2) (.slice Ao13 t151.length co13)) (fun _ hk=>hk.2) (.slice Ao17 t154.length co17)) (fun _ hk=>trivial),by repeat (first|(with_reducible first|exact HB.out|apply below_alloc|apply pw_below_drewN|apply below_drew1|refine below_set ?_ GE148.out|refine below_set ?_ GE149.out|refine below_set ?_ GE150.out)|exact HB.out)⟩
end Go.Proofs.YthkibaldmjfmmaaDoor.Q
