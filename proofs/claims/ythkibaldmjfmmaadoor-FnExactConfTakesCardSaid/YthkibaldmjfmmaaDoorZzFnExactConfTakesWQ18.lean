/- Of a text of ours what this claim needs. -/
import Derived.Test.YthkibaldmjfmmaaDoorZzFnExactConfTakesWQ0
import Derived.Test.YthkibaldmjfmmaaDoorZzFnExactConfTakesWQ8
import Derived.Test.YthkibaldmjfmmaaDoorZzFnExactConfTakesWQ17
import Derived.Test.YthkibaldmjfmmaaDoorZzFnExactConfTakesWHSplit
namespace Go.Proofs.YthkibaldmjfmmaaDoor.Q
open Go.RowKit Go.Proofs.YthkibaldmjfmmaaDoorW.PrintWords Go.Proofs.YthkibaldmjfmmaaDoorW.PrintLast Go.Proofs.YthkibaldmjfmmaaDoorW.PrintMore
attribute [local go_sem] max2_int min2_int max_two min_two max_three min_three max_four min_four
set_option linter.unusedVariables false
set_option linter.unusedSimpArgs false
def slices_IndexFunc_impl_Way_impl_Way_at105.l0:Nat→List (S117)→Int→Int→Option (Int)
  | 0,_,_,_=>none
  | k+1,x0,x7,x8=>if x8 < x7 then (if 0≤x8 then (if x8 < (x0.length:Int) then ((impl_ConfOk_2.f k ((rd_T117 x0 x8).f0) ((rd_T117 x0 x8).f1)).bind fun t142=>(if t142=true then (some x8) else (slices_IndexFunc_impl_Way_impl_Way_at105.l0 k x0 x7 (wrap64 (x8+1))))) else (none)) else (none)) else (some (-1))
def slices_IndexFunc_impl_Way_impl_Way_at105.f (k:Nat) (l0:List (S117)) :Option (Int):=slices_IndexFunc_impl_Way_impl_Way_at105.l0 k l0 (l0.length:Int) 0
set_option maxHeartbeats 8000000 in
set_option maxRecDepth 100000 in
theorem slices_IndexFunc_impl_Way_impl_Way_at105.calls (k:Nat) (A0:Option Addr) (c0:Nat) (l0:List (S117))  (r:Int) (w:World) (hr0:Kd.C k117 w A0 l0.length l0) (hc0:l0.length≤c0) (hG:GOK w) (h:slices_IndexFunc_impl_Way_impl_Way_at105.f k l0=some r) :
    Calls Tryd.prog 133 #[.slice A0 l0.length c0,.func (.func 105) #[] #[]] w fun e w'=>e=.returned (.int .i64 r)∧Below w.heap.size w w':=by
  have hu117:=Tryd.underlying117
  have HR0:=Aside0.mk hr0
  have HC0:=Aside0.mk hc0
  clear hr0 hc0
  have HG:=Aside0.mk hG
  clear hG
  have HB:=Aside0.mk (Below.refl w.heap.size w)
  have H:(slices_IndexFunc_impl_Way_impl_Way_at105.l0 k l0 (l0.length:Int) 0)=some r:=h
  clear h
  have H':=Aside0.mk H
  clear H
  go_enter Tryd.func133,Tryd.ntmps133
  go_wp2
  go_loopg [8] k (fun kq v8 w'=>∃ (x8_1:Int),v8=.int .i64 x8_1∧Aside0 (slices_IndexFunc_impl_Way_impl_Way_at105.l0 kq l0 (l0.length:Int) x8_1=some r)∧Aside0 (kq≤k)∧Aside0 (Below w.heap.size w w'))
  case atStart=>exact ⟨(0),(by first|rfl|(simp;done)|(simp [*];done)),H',⟨Nat.le_refl _⟩,⟨by repeat (first|(with_reducible first|exact HB.out|apply below_alloc|apply pw_below_drewN|apply below_drew1)|exact HB.out)⟩⟩
  case round =>
    clear H'
    try clear p2
    obtain ⟨x8_1,rfl,HA,HK1,HB⟩:=hrel
    cases gk with
    | zero=>exact absurd HA.out (by simp [slices_IndexFunc_impl_Way_impl_Way_at105.l0])
    | succ k1 =>
      have H:=HA.out
      clear HA
      simp only [slices_IndexFunc_impl_Way_impl_Way_at105.l0] at H
      by_cases c3:x8_1 < (l0.length:Int)
      · rw [if_pos c3] at H
        have c3b0:decide (x8_1 < (l0.length:Int))=true:=decide_eq_true c3
        clear c3
        by_cases c4:0≤x8_1
        · rw [if_pos c4] at H
          have c4b0:decide (0≤x8_1)=true:=decide_eq_true c4
          clear c4
          by_cases c5:x8_1 < (l0.length:Int)
          · rw [if_pos c5] at H
            have c5b0:decide (x8_1 < (l0.length:Int))=true:=decide_eq_true c5
            clear c5
            replace H:=Option.bind_eq_some_iff.mp H
            obtain ⟨t142,A60,H⟩:=H
            replace H:(if t142=true then (some x8_1) else (slices_IndexFunc_impl_Way_impl_Way_at105.l0 k1 l0 (l0.length:Int) (wrap64 (x8_1+1))))=some r:=H
            have A6:=Aside0.mk A60
            clear A60
            by_cases c7:t142=true
            · subst c7
              have H1:(some x8_1)=some r:=by rw [if_pos rfl] at H;exact H
              clear H
              have H:=H1
              clear H1
              obtain rfl:=Option.some.inj H
              have p141:0≤(x8_1:Int):=of_decide_eq_true (by first|(with_reducible assumption)|assumption)
              have q141:x8_1 < (l0.length:Int):=of_decide_eq_true (by first|(with_reducible assumption)|assumption)
              obtain ⟨ad141,e141,hx141_0,hx141_1⟩:=at_T117 HR0.out x8_1 p141 q141
              cases e141
              replace hx141_0:=(HB.out.cell (World.block_lt_of_cell? w _ hx141_0)).trans hx141_0
              replace hx141_1:=(HB.out.cell (World.block_lt_of_cell? w _ hx141_1)).trans hx141_1
              replace p141:=eq_true p141
              replace q141:=eq_true q141
              go_wp2_with (first|(go_at_call 105;(with_reducible refine (impl_ConfOk_2.calls k1 ((rd_T117 l0 x8_1).f0) ((rd_T117 l0 x8_1).f1) true _ ?side1 A6.out).mono ?_);(case side1=>first|(with_reducible exact HG.out)|((with_reducible repeat (first|exact HG.out|apply GOK.drewN|apply GOK.drew));done)|exact GOK.below HG.out (by repeat (first|(with_reducible first|exact HB.out|apply below_alloc|apply pw_below_drewN|apply below_drew1)|exact HB.out)));rintro e w8 ⟨rfl,hb⟩;have n0_:=Aside0.mk (below_step (by repeat (first|(with_reducible first|exact HB.out|apply below_alloc|apply pw_below_drewN|apply below_drew1)|exact HB.out)) hb);clear HB;have HB:=n0_;clear n0_;(try clear hb);(try clear hb2);(try clear hk);(try clear hi)))
              go_ret
              exact ⟨by first|rfl|(simp [errW_none,errW_some]<;>rfl)|(simp [*,errW_none,errW_some]<;>rfl),by repeat (first|(with_reducible first|exact HB.out|apply below_alloc|apply pw_below_drewN|apply below_drew1)|exact HB.out)⟩
            · replace c7:=Bool.eq_false_iff.mpr c7
              subst c7
              have H1:(slices_IndexFunc_impl_Way_impl_Way_at105.l0 k1 l0 (l0.length:Int) (wrap64 (x8_1+1)))=some r:=by rw [if_neg (show ¬ (false=true) by decide)] at H;exact H
              clear H
              have H:=H1
              clear H1
              have H':=Aside0.mk H
              clear H
              have p141:0≤(x8_1:Int):=of_decide_eq_true (by first|(with_reducible assumption)|assumption)
              have q141:x8_1 < (l0.length:Int):=of_decide_eq_true (by first|(with_reducible assumption)|assumption)
              obtain ⟨ad141,e141,hx141_0,hx141_1⟩:=at_T117 HR0.out x8_1 p141 q141
              cases e141
              replace hx141_0:=(HB.out.cell (World.block_lt_of_cell? w _ hx141_0)).trans hx141_0
              replace hx141_1:=(HB.out.cell (World.block_lt_of_cell? w _ hx141_1)).trans hx141_1
              replace p141:=eq_true p141
              replace q141:=eq_true q141
              go_wp2_with (first|(go_at_call 105;(with_reducible refine (impl_ConfOk_2.calls k1 ((rd_T117 l0 x8_1).f0) ((rd_T117 l0 x8_1).f1) false _ ?side1 A6.out).mono ?_);(case side1=>first|(with_reducible exact HG.out)|((with_reducible repeat (first|exact HG.out|apply GOK.drewN|apply GOK.drew));done)|exact GOK.below HG.out (by repeat (first|(with_reducible first|exact HB.out|apply below_alloc|apply pw_below_drewN|apply below_drew1)|exact HB.out)));rintro e w9 ⟨rfl,hb⟩;have n0_:=Aside0.mk (below_step (by repeat (first|(with_reducible first|exact HB.out|apply below_alloc|apply pw_below_drewN|apply below_drew1)|exact HB.out)) hb);clear HB;have HB:=n0_;clear n0_;(try clear hb);(try clear hb2);(try clear hk);(try clear hi)))
              go_roundg k1
              case measure=>have:=HK1.out;omega
              case rel=>exact ⟨(wrap64 (x8_1+1)),(by first|rfl|(simp;done)|(simp [*];done)),H',⟨by have:=HK1.out;omega⟩,⟨by repeat (first|(with_reducible first|exact HB.out|apply below_alloc|apply pw_below_drewN|apply below_drew1)|exact HB.out)⟩⟩
          · rw [if_neg c5] at H
            exact absurd H (by simp)
        · rw [if_neg c4] at H
          exact absurd H (by simp)
      · rw [if_neg c3] at H
        have c3b0:decide (x8_1 < (l0.length:Int))=false:=decide_eq_false c3
        clear c3
        obtain rfl:=Option.some.inj H
        go_wp2
        go_ret
        exact ⟨by first|rfl|(simp [errW_none,errW_some]<;>rfl)|(simp [*,errW_none,errW_some]<;>rfl),by repeat (first|(with_reducible first|exact HB.out|apply below_alloc|apply pw_below_drewN|apply below_drew1)|exact HB.out)⟩
def slices_ContainsFunc_impl_Way_impl_Way_at105.f (k:Nat) (l0:List (S117)) :Option (Bool):=(slices_IndexFunc_impl_Way_impl_Way_at105.f k l0).bind fun t143=>(some (decide (t143≥0)))
set_option maxHeartbeats 8000000 in
set_option maxRecDepth 100000 in
theorem slices_ContainsFunc_impl_Way_impl_Way_at105.calls (k:Nat) (A0:Option Addr) (c0:Nat) (l0:List (S117))  (r:Bool) (w:World) (hr0:Kd.C k117 w A0 l0.length l0) (hc0:l0.length≤c0) (hG:GOK w) (h:slices_ContainsFunc_impl_Way_impl_Way_at105.f k l0=some r) :
    Calls Tryd.prog 106 #[.slice A0 l0.length c0,.func (.func 105) #[] #[]] w fun e w'=>e=.returned (.bool r)∧Below w.heap.size w w':=by
  have HR0:=Aside0.mk hr0
  have HC0:=Aside0.mk hc0
  clear hr0 hc0
  have HG:=Aside0.mk hG
  clear hG
  have HB:=Aside0.mk (Below.refl w.heap.size w)
  have H:((slices_IndexFunc_impl_Way_impl_Way_at105.f k l0).bind fun t143=>(some (decide (t143≥0))))=some r:=h
  clear h
  replace H:=Option.bind_eq_some_iff.mp H
  obtain ⟨t143,A30,H⟩:=H
  replace H:(some (decide (t143≥0)))=some r:=H
  have A3:=Aside0.mk A30
  clear A30
  obtain rfl:=Option.some.inj H
  go_enter Tryd.func106,Tryd.ntmps106
  go_wp2_with (first|((with_reducible refine gate_callee (f:=133) rfl ?_);refine goesL_ (some 7) rfl rfl Tryd.func133 (by kernel_rfl) rfl #[.slice A0 l0.length c0,.func (.func 105) #[] #[]] rfl (by (try simp only [List.map_toArray,List.map_cons,List.map_nil]);first|done|rfl|(simp only [List.length_drop,List.length_take];rfl)) ?_;(with_reducible refine (slices_IndexFunc_impl_Way_impl_Way_at105.calls k _ _ l0  t143 _ ?side1 ?side2 ?side3 A3.out).mono ?_);(case side1=>repeat (first|exact HR0.out|(with_reducible refine Kd.C_alloc ?_ _)|(with_reducible refine Kd.C_drewN ?_ _)|(with_reducible refine Kd.C_drew ?_)));(case side2=>exact HC0.out);(case side3=>first|(with_reducible exact HG.out)|((with_reducible repeat (first|exact HG.out|apply GOK.drewN|apply GOK.drew));done)|exact GOK.below HG.out (by repeat (first|(with_reducible first|exact HB.out|apply below_alloc|apply pw_below_drewN|apply below_drew1)|exact HB.out)));rintro e w4 ⟨rfl,hb⟩;refine ⟨_,rfl,?_⟩;have n0_:=Aside0.mk (below_step (by repeat (first|(with_reducible first|exact HB.out|apply below_alloc|apply pw_below_drewN|apply below_drew1)|exact HB.out)) hb);clear HB;have HB:=n0_;clear n0_;(try clear hb);(try clear hb2);(try clear hk);(try clear hi)))
  go_ret
  exact ⟨by first|rfl|(simp [errW_none,errW_some]<;>rfl)|(simp [*,errW_none,errW_some]<;>rfl),by repeat (first|(with_reducible first|exact HB.out|apply below_alloc|apply pw_below_drewN|apply below_drew1)|exact HB.out)⟩
def impl_ConfOk.f (k:Nat) (a0_0:ByteArray) (l0_1:List ByteArray) (l0_2:List (S117)):Option (Bool):=(impl_DomainOk.f k a0_0).bind fun t145=>(if t145=true then (if (l0_1.length:Int)≤3 then (if (l0_2.length:Int)≤4 then ((slices_ContainsFunc_string_string_at104.f k l0_1).bind fun t146=>(if t146=true then (some false) else ((slices_ContainsFunc_impl_Way_impl_Way_at105.f k l0_2).bind fun t147=>(some (!t147))))) else (some false)) else (some false)) else (some false))
set_option maxHeartbeats 8000000 in
set_option maxRecDepth 100000 in
theorem impl_ConfOk.calls (k:Nat) (a0_0:ByteArray) (A0_1:Option Addr) (c0_1:Nat) (l0_1:List ByteArray) (A0_2:Option Addr) (c0_2:Nat) (l0_2:List (S117)) (r:Bool) (w:World) (hr0_1:Kd.C Kd.string w A0_1 l0_1.length l0_1) (hc0_1:l0_1.length≤c0_1) (hr0_2:Kd.C k117 w A0_2 l0_2.length l0_2) (hc0_2:l0_2.length≤c0_2) (hG:GOK w) (h:impl_ConfOk.f k a0_0 l0_1 l0_2=some r) :
    Calls Tryd.prog 62 #[.agg #[.string a0_0,.slice A0_1 l0_1.length c0_1,.slice A0_2 l0_2.length c0_2]] w fun e w'=>e=.returned (.bool r)∧Below w.heap.size w w':=by
  have hu44:=Tryd.underlying44
  have HR0_1:=Aside0.mk hr0_1
  have HC0_1:=Aside0.mk hc0_1
  clear hr0_1 hc0_1
  have HR0_2:=Aside0.mk hr0_2
  have HC0_2:=Aside0.mk hc0_2
  clear hr0_2 hc0_2
  have HG:=Aside0.mk hG
  clear hG
  have HB:=Aside0.mk (Below.refl w.heap.size w)
  have H:((impl_DomainOk.f k a0_0).bind fun t145=>(if t145=true then (if (l0_1.length:Int)≤3 then (if (l0_2.length:Int)≤4 then ((slices_ContainsFunc_string_string_at104.f k l0_1).bind fun t146=>(if t146=true then (some false) else ((slices_ContainsFunc_impl_Way_impl_Way_at105.f k l0_2).bind fun t147=>(some (!t147))))) else (some false)) else (some false)) else (some false)))=some r:=h
  clear h
  replace H:=Option.bind_eq_some_iff.mp H
  obtain ⟨t145,A20,H⟩:=H
  replace H:(if t145=true then (if (l0_1.length:Int)≤3 then (if (l0_2.length:Int)≤4 then ((slices_ContainsFunc_string_string_at104.f k l0_1).bind fun t146=>(if t146=true then (some false) else ((slices_ContainsFunc_impl_Way_impl_Way_at105.f k l0_2).bind fun t147=>(some (!t147))))) else (some false)) else (some false)) else (some false))=some r:=H
  have A2:=Aside0.mk A20
  clear A20
  by_cases c3:t145=true
  · subst c3
    have H1:(if (l0_1.length:Int)≤3 then (if (l0_2.length:Int)≤4 then ((slices_ContainsFunc_string_string_at104.f k l0_1).bind fun t146=>(if t146=true then (some false) else ((slices_ContainsFunc_impl_Way_impl_Way_at105.f k l0_2).bind fun t147=>(some (!t147))))) else (some false)) else (some false))=some r:=by rw [if_pos rfl] at H;exact H
    clear H
    have H:=H1
    clear H1
    by_cases c4:(l0_1.length:Int)≤3
    · rw [if_pos c4] at H
      have c4b0:decide ((l0_1.length:Int)≤3)=true:=decide_eq_true c4
      have c4b1:decide (l0_1.length≤3)=true:=decide_eq_true (by omega)
      clear c4
      by_cases c5:(l0_2.length:Int)≤4
      · rw [if_pos c5] at H
        have c5b0:decide ((l0_2.length:Int)≤4)=true:=decide_eq_true c5
        have c5b1:decide (l0_2.length≤4)=true:=decide_eq_true (by omega)
        clear c5
        replace H:=Option.bind_eq_some_iff.mp H
        obtain ⟨t146,A60,H⟩:=H
        replace H:(if t146=true then (some false) else ((slices_ContainsFunc_impl_Way_impl_Way_at105.f k l0_2).bind fun t147=>(some (!t147))))=some r:=H
        have A6:=Aside0.mk A60
        clear A60
        by_cases c7:t146=true
        · subst c7
          have H1:(some false)=some r:=by rw [if_pos rfl] at H;exact H
          clear H
          have H:=H1
          clear H1
          obtain rfl:=Option.some.inj H
          go_enter Tryd.func62,Tryd.ntmps62
          go_wp2_with (first|((with_reducible refine gate_dst (N:=1) rfl ?_);(try (refine gate_guard (by rfl) ?_;dsimp only));refine box_event ?hg (N:=1) ?hd (cs:=#[.string a0_0,.slice A0_1 l0_1.length c0_1,.slice A0_2 l0_2.length c0_2]) (t:=44) ?hr ?_;(case hd=>rfl);(case hg=>rfl);(case hr=>first|(go_simp;done)|(go_simp;rfl));intro gb144 hg w8 hbox hb;have n0_:=Aside0.mk (below_step (by repeat (first|(with_reducible first|exact HB.out|apply below_alloc|apply pw_below_drewN|apply below_drew1)|exact HB.out)) hb);have n1_:=Aside0.mk (hbox);have n2_:=Aside0.mk ((by rw [hg];exact (below_size (by repeat (first|(with_reducible first|exact HB.out|apply below_alloc|apply pw_below_drewN|apply below_drew1)|exact HB.out))):w.heap.size≤gb144));have n3_:=Aside0.mk ((by rw [hg];exact (below_size (by repeat (first|(with_reducible first|exact HB.out|apply below_alloc|apply pw_below_drewN|apply below_drew1)|exact HB.out))):w.heap.size≤gb144));clear HB;have HB:=n0_;have BK144:=n1_;have GW144:=n2_;have GE144:=n3_;clear n0_ n1_ n2_ n3_;clear hb hbox hg;have hcz9_0:w8.cell? ⟨gb144,0,none⟩=some (.string a0_0):=(blk_cell BK144.out 0).trans rfl;have hcz9_1:w8.cell? ⟨gb144,1,none⟩=some (.slice A0_1 l0_1.length c0_1):=(blk_cell BK144.out 1).trans rfl;have hcz9_2:w8.cell? ⟨gb144,2,none⟩=some (.slice A0_2 l0_2.length c0_2):=(blk_cell BK144.out 2).trans rfl;have hfz9_0:=blk_frozen BK144.out 0;have hfz9_1:=blk_frozen BK144.out 1;have hfz9_2:=blk_frozen BK144.out 2)|((with_reducible refine gate_callee (f:=63) rfl ?_);refine goesL_ (some 7) rfl rfl Tryd.func63 (by kernel_rfl) rfl #[.string a0_0] rfl (by (try simp only [List.map_toArray,List.map_cons,List.map_nil]);first|done|rfl|(simp only [List.length_drop,List.length_take];rfl)) ?_;(with_reducible refine (impl_DomainOk.calls k a0_0 true _ ?side1 A2.out).mono ?_);(case side1=>first|(with_reducible exact HG.out)|((with_reducible repeat (first|exact HG.out|apply GOK.drewN|apply GOK.drew));done)|exact GOK.below HG.out (by repeat (first|(with_reducible first|exact HB.out|apply below_alloc|apply pw_below_drewN|apply below_drew1|refine below_set ?_ GE144.out)|exact HB.out)));rintro e w10 ⟨rfl,hb⟩;refine ⟨_,rfl,?_⟩;have n0_:=Aside0.mk (blk_below (g:=gb144) (o:=.cells #[.string a0_0,.slice A0_1 l0_1.length c0_1,.slice A0_2 l0_2.length c0_2] 44 (0,0)) (by (with_reducible repeat (first|refine blk_drewN ?_ _|refine blk_drew ?_|refine blk_alloc ?_ _));exact BK144.out) hb);have n1_:=Aside0.mk (below_step (by repeat (first|(with_reducible first|exact HB.out|apply below_alloc|apply pw_below_drewN|apply below_drew1|refine below_set ?_ GE144.out)|exact HB.out)) hb);clear BK144;clear HB;have BK144:=n0_;have HB:=n1_;clear n0_ n1_;(try clear hb);(try clear hb2);(try clear hk);(try clear hi);have hcz11_0:w10.cell? ⟨gb144,0,none⟩=some (.string a0_0):=(blk_cell BK144.out 0).trans rfl;have hcz11_1:w10.cell? ⟨gb144,1,none⟩=some (.slice A0_1 l0_1.length c0_1):=(blk_cell BK144.out 1).trans rfl;have hcz11_2:w10.cell? ⟨gb144,2,none⟩=some (.slice A0_2 l0_2.length c0_2):=(blk_cell BK144.out 2).trans rfl;have hfz11_0:=blk_frozen BK144.out 0;have hfz11_1:=blk_frozen BK144.out 1;have hfz11_2:=blk_frozen BK144.out 2)|(go_at_call 96;(with_reducible refine (slices_ContainsFunc_string_string_at104.calls k _ _ l0_1  true _ ?side1 ?side2 ?side3 A6.out).mono ?_);(case side1=>repeat (first|exact (Kd.C_below HR0_1.out HB.out)|(with_reducible refine Kd.C_alloc ?_ _)|(with_reducible refine Kd.C_drewN ?_ _)|(with_reducible refine Kd.C_drew ?_)));(case side2=>exact HC0_1.out);(case side3=>first|(with_reducible exact HG.out)|((with_reducible repeat (first|exact HG.out|apply GOK.drewN|apply GOK.drew));done)|exact GOK.below HG.out (by repeat (first|(with_reducible first|exact HB.out|apply below_alloc|apply pw_below_drewN|apply below_drew1|refine below_set ?_ GE144.out)|exact HB.out)));rintro e w12 ⟨rfl,hb⟩;have n0_:=Aside0.mk (blk_below (g:=gb144) (o:=.cells #[.string a0_0,.slice A0_1 l0_1.length c0_1,.slice A0_2 l0_2.length c0_2] 44 (0,0)) (by (with_reducible repeat (first|refine blk_drewN ?_ _|refine blk_drew ?_|refine blk_alloc ?_ _));exact BK144.out) hb);have n1_:=Aside0.mk (below_step (by repeat (first|(with_reducible first|exact HB.out|apply below_alloc|apply pw_below_drewN|apply below_drew1|refine below_set ?_ GE144.out)|exact HB.out)) hb);clear BK144;clear HB;have BK144:=n0_;have HB:=n1_;clear n0_ n1_;(try clear hb);(try clear hb2);(try clear hk);(try clear hi)))
          go_ret
          exact ⟨by first|rfl|(simp [errW_none,errW_some]<;>rfl)|(simp [*,errW_none,errW_some]<;>rfl),by repeat (first|(with_reducible first|exact HB.out|apply below_alloc|apply pw_below_drewN|apply below_drew1|refine below_set ?_ GE144.out)|exact HB.out)⟩
        · replace c7:=Bool.eq_false_iff.mpr c7
          subst c7
          have H1:((slices_ContainsFunc_impl_Way_impl_Way_at105.f k l0_2).bind fun t147=>(some (!t147)))=some r:=by rw [if_neg (show ¬ (false=true) by decide)] at H;exact H
          clear H
          have H:=H1
          clear H1
          replace H:=Option.bind_eq_some_iff.mp H
          obtain ⟨t147,A130,H⟩:=H
          replace H:(some (!t147))=some r:=H
          have A13:=Aside0.mk A130
          clear A130
          obtain rfl:=Option.some.inj H
          go_enter Tryd.func62,Tryd.ntmps62
          go_wp2_with (first|((with_reducible refine gate_dst (N:=1) rfl ?_);(try (refine gate_guard (by rfl) ?_;dsimp only));refine box_event ?hg (N:=1) ?hd (cs:=#[.string a0_0,.slice A0_1 l0_1.length c0_1,.slice A0_2 l0_2.length c0_2]) (t:=44) ?hr ?_;(case hd=>rfl);(case hg=>rfl);(case hr=>first|(go_simp;done)|(go_simp;rfl));intro gb144 hg w14 hbox hb;have n0_:=Aside0.mk (below_step (by repeat (first|(with_reducible first|exact HB.out|apply below_alloc|apply pw_below_drewN|apply below_drew1)|exact HB.out)) hb);have n1_:=Aside0.mk (hbox);have n2_:=Aside0.mk ((by rw [hg];exact (below_size (by repeat (first|(with_reducible first|exact HB.out|apply below_alloc|apply pw_below_drewN|apply below_drew1)|exact HB.out))):w.heap.size≤gb144));have n3_:=Aside0.mk ((by rw [hg];exact (below_size (by repeat (first|(with_reducible first|exact HB.out|apply below_alloc|apply pw_below_drewN|apply below_drew1)|exact HB.out))):w.heap.size≤gb144));clear HB;have HB:=n0_;have BK144:=n1_;have GW144:=n2_;have GE144:=n3_;clear n0_ n1_ n2_ n3_;clear hb hbox hg;have hcz15_0:w14.cell? ⟨gb144,0,none⟩=some (.string a0_0):=(blk_cell BK144.out 0).trans rfl;have hcz15_1:w14.cell? ⟨gb144,1,none⟩=some (.slice A0_1 l0_1.length c0_1):=(blk_cell BK144.out 1).trans rfl;have hcz15_2:w14.cell? ⟨gb144,2,none⟩=some (.slice A0_2 l0_2.length c0_2):=(blk_cell BK144.out 2).trans rfl;have hfz15_0:=blk_frozen BK144.out 0;have hfz15_1:=blk_frozen BK144.out 1;have hfz15_2:=blk_frozen BK144.out 2)|((with_reducible refine gate_callee (f:=63) rfl ?_);refine goesL_ (some 7) rfl rfl Tryd.func63 (by kernel_rfl) rfl #[.string a0_0] rfl (by (try simp only [List.map_toArray,List.map_cons,List.map_nil]);first|done|rfl|(simp only [List.length_drop,List.length_take];rfl)) ?_;(with_reducible refine (impl_DomainOk.calls k a0_0 true _ ?side1 A2.out).mono ?_);(case side1=>first|(with_reducible exact HG.out)|((with_reducible repeat (first|exact HG.out|apply GOK.drewN|apply GOK.drew));done)|exact GOK.below HG.out (by repeat (first|(with_reducible first|exact HB.out|apply below_alloc|apply pw_below_drewN|apply below_drew1|refine below_set ?_ GE144.out)|exact HB.out)));rintro e w16 ⟨rfl,hb⟩;refine ⟨_,rfl,?_⟩;have n0_:=Aside0.mk (blk_below (g:=gb144) (o:=.cells #[.string a0_0,.slice A0_1 l0_1.length c0_1,.slice A0_2 l0_2.length c0_2] 44 (0,0)) (by (with_reducible repeat (first|refine blk_drewN ?_ _|refine blk_drew ?_|refine blk_alloc ?_ _));exact BK144.out) hb);have n1_:=Aside0.mk (below_step (by repeat (first|(with_reducible first|exact HB.out|apply below_alloc|apply pw_below_drewN|apply below_drew1|refine below_set ?_ GE144.out)|exact HB.out)) hb);clear BK144;clear HB;have BK144:=n0_;have HB:=n1_;clear n0_ n1_;(try clear hb);(try clear hb2);(try clear hk);(try clear hi);have hcz17_0:w16.cell? ⟨gb144,0,none⟩=some (.string a0_0):=(blk_cell BK144.out 0).trans rfl;have hcz17_1:w16.cell? ⟨gb144,1,none⟩=some (.slice A0_1 l0_1.length c0_1):=(blk_cell BK144.out 1).trans rfl;have hcz17_2:w16.cell? ⟨gb144,2,none⟩=some (.slice A0_2 l0_2.length c0_2):=(blk_cell BK144.out 2).trans rfl;have hfz17_0:=blk_frozen BK144.out 0;have hfz17_1:=blk_frozen BK144.out 1;have hfz17_2:=blk_frozen BK144.out 2)|(go_at_call 96;(with_reducible refine (slices_ContainsFunc_string_string_at104.calls k _ _ l0_1  false _ ?side1 ?side2 ?side3 A6.out).mono ?_);(case side1=>repeat (first|exact (Kd.C_below HR0_1.out HB.out)|(with_reducible refine Kd.C_alloc ?_ _)|(with_reducible refine Kd.C_drewN ?_ _)|(with_reducible refine Kd.C_drew ?_)));(case side2=>exact HC0_1.out);(case side3=>first|(with_reducible exact HG.out)|((with_reducible repeat (first|exact HG.out|apply GOK.drewN|apply GOK.drew));done)|exact GOK.below HG.out (by repeat (first|(with_reducible first|exact HB.out|apply below_alloc|apply pw_below_drewN|apply below_drew1|refine below_set ?_ GE144.out)|exact HB.out)));rintro e w18 ⟨rfl,hb⟩;have n0_:=Aside0.mk (blk_below (g:=gb144) (o:=.cells #[.string a0_0,.slice A0_1 l0_1.length c0_1,.slice A0_2 l0_2.length c0_2] 44 (0,0)) (by (with_reducible repeat (first|refine blk_drewN ?_ _|refine blk_drew ?_|refine blk_alloc ?_ _));exact BK144.out) hb);have n1_:=Aside0.mk (below_step (by repeat (first|(with_reducible first|exact HB.out|apply below_alloc|apply pw_below_drewN|apply below_drew1|refine below_set ?_ GE144.out)|exact HB.out)) hb);clear BK144;clear HB;have BK144:=n0_;have HB:=n1_;clear n0_ n1_;(try clear hb);(try clear hb2);(try clear hk);(try clear hi);have hcz19_0:w18.cell? ⟨gb144,0,none⟩=some (.string a0_0):=(blk_cell BK144.out 0).trans rfl;have hcz19_1:w18.cell? ⟨gb144,1,none⟩=some (.slice A0_1 l0_1.length c0_1):=(blk_cell BK144.out 1).trans rfl;have hcz19_2:w18.cell? ⟨gb144,2,none⟩=some (.slice A0_2 l0_2.length c0_2):=(blk_cell BK144.out 2).trans rfl;have hfz19_0:=blk_frozen BK144.out 0;have hfz19_1:=blk_frozen BK144.out 1;have hfz19_2:=blk_frozen BK144.out 2)|(go_at_call 106;(with_reducible refine (slices_ContainsFunc_impl_Way_impl_Way_at105.calls k _ _ l0_2  t147 _ ?side1 ?side2 ?side3 A13.out).mono ?_);(case side1=>repeat (first|exact (Kd.C_below HR0_2.out HB.out)|(with_reducible refine Kd.C_alloc ?_ _)|(with_reducible refine Kd.C_drewN ?_ _)|(with_reducible refine Kd.C_drew ?_)));(case side2=>exact HC0_2.out);(case side3=>first|(with_reducible exact HG.out)|((with_reducible repeat (first|exact HG.out|apply GOK.drewN|apply GOK.drew));done)|exact GOK.below HG.out (by repeat (first|(with_reducible first|exact HB.out|apply below_alloc|apply pw_below_drewN|apply below_drew1|refine below_set ?_ GE144.out)|exact HB.out)));rintro e w20 ⟨rfl,hb⟩;have n0_:=Aside0.mk (blk_below (g:=gb144) (o:=.cells #[.string a0_0,.slice A0_1 l0_1.length c0_1,.slice A0_2 l0_2.length c0_2] 44 (0,0)) (by (with_reducible repeat (first|refine blk_drewN ?_ _|refine blk_drew ?_|refine blk_alloc ?_ _));exact BK144.out) hb);have n1_:=Aside0.mk (below_step (by repeat (first|(with_reducible first|exact HB.out|apply below_alloc|apply pw_below_drewN|apply below_drew1|refine below_set ?_ GE144.out)|exact HB.out)) hb);clear BK144;clear HB;have BK144:=n0_;have HB:=n1_;clear n0_ n1_;(try clear hb);(try clear hb2);(try clear hk);(try clear hi)))
          go_ret
          exact ⟨by first|rfl|(simp [errW_none,errW_some]<;>rfl)|(simp [*,errW_none,errW_some]<;>rfl),by repeat (first|(with_reducible first|exact HB.out|apply below_alloc|apply pw_below_drewN|apply below_drew1|refine below_set ?_ GE144.out)|exact HB.out)⟩
      · rw [if_neg c5] at H
        have c5b0:decide ((l0_2.length:Int)≤4)=false:=decide_eq_false c5
        have c5b1:decide (l0_2.length≤4)=false:=decide_eq_false (by omega)
        clear c5
        obtain rfl:=Option.some.inj H
        go_enter Tryd.func62,Tryd.ntmps62
        go_wp2_with (first|((with_reducible refine gate_dst (N:=1) rfl ?_);(try (refine gate_guard (by rfl) ?_;dsimp only));refine box_event ?hg (N:=1) ?hd (cs:=#[.string a0_0,.slice A0_1 l0_1.length c0_1,.slice A0_2 l0_2.length c0_2]) (t:=44) ?hr ?_;(case hd=>rfl);(case hg=>rfl);(case hr=>first|(go_simp;done)|(go_simp;rfl));intro gb144 hg w21 hbox hb;have n0_:=Aside0.mk (below_step (by repeat (first|(with_reducible first|exact HB.out|apply below_alloc|apply pw_below_drewN|apply below_drew1)|exact HB.out)) hb);have n1_:=Aside0.mk (hbox);have n2_:=Aside0.mk ((by rw [hg];exact (below_size (by repeat (first|(with_reducible first|exact HB.out|apply below_alloc|apply pw_below_drewN|apply below_drew1)|exact HB.out))):w.heap.size≤gb144));have n3_:=Aside0.mk ((by rw [hg];exact (below_size (by repeat (first|(with_reducible first|exact HB.out|apply below_alloc|apply pw_below_drewN|apply below_drew1)|exact HB.out))):w.heap.size≤gb144));clear HB;have HB:=n0_;have BK144:=n1_;have GW144:=n2_;have GE144:=n3_;clear n0_ n1_ n2_ n3_;clear hb hbox hg;have hcz22_0:w21.cell? ⟨gb144,0,none⟩=some (.string a0_0):=(blk_cell BK144.out 0).trans rfl;have hcz22_1:w21.cell? ⟨gb144,1,none⟩=some (.slice A0_1 l0_1.length c0_1):=(blk_cell BK144.out 1).trans rfl;have hcz22_2:w21.cell? ⟨gb144,2,none⟩=some (.slice A0_2 l0_2.length c0_2):=(blk_cell BK144.out 2).trans rfl;have hfz22_0:=blk_frozen BK144.out 0;have hfz22_1:=blk_frozen BK144.out 1;have hfz22_2:=blk_frozen BK144.out 2)|((with_reducible refine gate_callee (f:=63) rfl ?_);refine goesL_ (some 7) rfl rfl Tryd.func63 (by kernel_rfl) rfl #[.string a0_0] rfl (by (try simp only [List.map_toArray,List.map_cons,List.map_nil]);first|done|rfl|(simp only [List.length_drop,List.length_take];rfl)) ?_;(with_reducible refine (impl_DomainOk.calls k a0_0 true _ ?side1 A2.out).mono ?_);(case side1=>first|(with_reducible exact HG.out)|((with_reducible repeat (first|exact HG.out|apply GOK.drewN|apply GOK.drew));done)|exact GOK.below HG.out (by repeat (first|(with_reducible first|exact HB.out|apply below_alloc|apply pw_below_drewN|apply below_drew1|refine below_set ?_ GE144.out)|exact HB.out)));rintro e w23 ⟨rfl,hb⟩;refine ⟨_,rfl,?_⟩;have n0_:=Aside0.mk (blk_below (g:=gb144) (o:=.cells #[.string a0_0,.slice A0_1 l0_1.length c0_1,.slice A0_2 l0_2.length c0_2] 44 (0,0)) (by (with_reducible repeat (first|refine blk_drewN ?_ _|refine blk_drew ?_|refine blk_alloc ?_ _));exact BK144.out) hb);have n1_:=Aside0.mk (below_step (by repeat (first|(with_reducible first|exact HB.out|apply below_alloc|apply pw_below_drewN|apply below_drew1|refine below_set ?_ GE144.out)|exact HB.out)) hb);clear BK144;clear HB;have BK144:=n0_;have HB:=n1_;clear n0_ n1_;(try clear hb);(try clear hb2);(try clear hk);(try clear hi);have hcz24_0:w23.cell? ⟨gb144,0,none⟩=some (.string a0_0):=(blk_cell BK144.out 0).trans rfl;have hcz24_1:w23.cell? ⟨gb144,1,none⟩=some (.slice A0_1 l0_1.length c0_1):=(blk_cell BK144.out 1).trans rfl;have hcz24_2:w23.cell? ⟨gb144,2,none⟩=some (.slice A0_2 l0_2.length c0_2):=(blk_cell BK144.out 2).trans rfl;have hfz24_0:=blk_frozen BK144.out 0;have hfz24_1:=blk_frozen BK144.out 1;have hfz24_2:=blk_frozen BK144.out 2))
        go_ret
        exact ⟨by first|rfl|(simp [errW_none,errW_some]<;>rfl)|(simp [*,errW_none,errW_some]<;>rfl),by repeat (first|(with_reducible first|exact HB.out|apply below_alloc|apply pw_below_drewN|apply below_drew1|refine below_set ?_ GE144.out)|exact HB.out)⟩
    · rw [if_neg c4] at H
      have c4b0:decide ((l0_1.length:Int)≤3)=false:=decide_eq_false c4
      have c4b1:decide (l0_1.length≤3)=false:=decide_eq_false (by omega)
      clear c4
      obtain rfl:=Option.some.inj H
      go_enter Tryd.func62,Tryd.ntmps62
      go_wp2_with (first|((with_reducible refine gate_dst (N:=1) rfl ?_);(try (refine gate_guard (by rfl) ?_;dsimp only));refine box_event ?hg (N:=1) ?hd (cs:=#[.string a0_0,.slice A0_1 l0_1.length c0_1,.slice A0_2 l0_2.length c0_2]) (t:=44) ?hr ?_;(case hd=>rfl);(case hg=>rfl);(case hr=>first|(go_simp;done)|(go_simp;rfl));intro gb144 hg w25 hbox hb;have n0_:=Aside0.mk (below_step (by repeat (first|(with_reducible first|exact HB.out|apply below_alloc|apply pw_below_drewN|apply below_drew1)|exact HB.out)) hb);have n1_:=Aside0.mk (hbox);have n2_:=Aside0.mk ((by rw [hg];exact (below_size (by repeat (first|(with_reducible first|exact HB.out|apply below_alloc|apply pw_below_drewN|apply below_drew1)|exact HB.out))):w.heap.size≤gb144));have n3_:=Aside0.mk ((by rw [hg];exact (below_size (by repeat (first|(with_reducible first|exact HB.out|apply below_alloc|apply pw_below_drewN|apply below_drew1)|exact HB.out))):w.heap.size≤gb144));clear HB;have HB:=n0_;have BK144:=n1_;have GW144:=n2_;have GE144:=n3_;clear n0_ n1_ n2_ n3_;clear hb hbox hg;have hcz26_0:w25.cell? ⟨gb144,0,none⟩=some (.string a0_0):=(blk_cell BK144.out 0).trans rfl;have hcz26_1:w25.cell? ⟨gb144,1,none⟩=some (.slice A0_1 l0_1.length c0_1):=(blk_cell BK144.out 1).trans rfl;have hcz26_2:w25.cell? ⟨gb144,2,none⟩=some (.slice A0_2 l0_2.length c0_2):=(blk_cell BK144.out 2).trans rfl;have hfz26_0:=blk_frozen BK144.out 0;have hfz26_1:=blk_frozen BK144.out 1;have hfz26_2:=blk_frozen BK144.out 2)|((with_reducible refine gate_callee (f:=63) rfl ?_);refine goesL_ (some 7) rfl rfl Tryd.func63 (by kernel_rfl) rfl #[.string a0_0] rfl (by (try simp only [List.map_toArray,List.map_cons,List.map_nil]);first|done|rfl|(simp only [List.length_drop,List.length_take];rfl)) ?_;(with_reducible refine (impl_DomainOk.calls k a0_0 true _ ?side1 A2.out).mono ?_);(case side1=>first|(with_reducible exact HG.out)|((with_reducible repeat (first|exact HG.out|apply GOK.drewN|apply GOK.drew));done)|exact GOK.below HG.out (by repeat (first|(with_reducible first|exact HB.out|apply below_alloc|apply pw_below_drewN|apply below_drew1|refine below_set ?_ GE144.out)|exact HB.out)));rintro e w27 ⟨rfl,hb⟩;refine ⟨_,rfl,?_⟩;have n0_:=Aside0.mk (blk_below (g:=gb144) (o:=.cells #[.string a0_0,.slice A0_1 l0_1.length c0_1,.slice A0_2 l0_2.length c0_2] 44 (0,0)) (by (with_reducible repeat (first|refine blk_drewN ?_ _|refine blk_drew ?_|refine blk_alloc ?_ _));exact BK144.out) hb);have n1_:=Aside0.mk (below_step (by repeat (first|(with_reducible first|exact HB.out|apply below_alloc|apply pw_below_drewN|apply below_drew1|refine below_set ?_ GE144.out)|exact HB.out)) hb);clear BK144;clear HB;have BK144:=n0_;have HB:=n1_;clear n0_ n1_;(try clear hb);(try clear hb2);(try clear hk);(try clear hi);have hcz28_0:w27.cell? ⟨gb144,0,none⟩=some (.string a0_0):=(blk_cell BK144.out 0).trans rfl;have hcz28_1:w27.cell? ⟨gb144,1,none⟩=some (.slice A0_1 l0_1.length c0_1):=(blk_cell BK144.out 1).trans rfl;have hcz28_2:w27.cell? ⟨gb144,2,none⟩=some (.slice A0_2 l0_2.length c0_2):=(blk_cell BK144.out 2).trans rfl;have hfz28_0:=blk_frozen BK144.out 0;have hfz28_1:=blk_frozen BK144.out 1;have hfz28_2:=blk_frozen BK144.out 2))
      go_ret
      exact ⟨by first|rfl|(simp [errW_none,errW_some]<;>rfl)|(simp [*,errW_none,errW_some]<;>rfl),by repeat (first|(with_reducible first|exact HB.out|apply below_alloc|apply pw_below_drewN|apply below_drew1|refine below_set ?_ GE144.out)|exact HB.out)⟩
  · replace c3:=Bool.eq_false_iff.mpr c3
    subst c3
    have H1:(some false)=some r:=by rw [if_neg (show ¬ (false=true) by decide)] at H;exact H
    clear H
    have H:=H1
    clear H1
    obtain rfl:=Option.some.inj H
    go_enter Tryd.func62,Tryd.ntmps62
    go_wp2_with (first|((with_reducible refine gate_dst (N:=1) rfl ?_);(try (refine gate_guard (by rfl) ?_;dsimp only));refine box_event ?hg (N:=1) ?hd (cs:=#[.string a0_0,.slice A0_1 l0_1.length c0_1,.slice A0_2 l0_2.length c0_2]) (t:=44) ?hr ?_;(case hd=>rfl);(case hg=>rfl);(case hr=>first|(go_simp;done)|(go_simp;rfl));intro gb144 hg w29 hbox hb;have n0_:=Aside0.mk (below_step (by repeat (first|(with_reducible first|exact HB.out|apply below_alloc|apply pw_below_drewN|apply below_drew1)|exact HB.out)) hb);have n1_:=Aside0.mk (hbox);have n2_:=Aside0.mk ((by rw [hg];exact (below_size (by repeat (first|(with_reducible first|exact HB.out|apply below_alloc|apply pw_below_drewN|apply below_drew1)|exact HB.out))):w.heap.size≤gb144));have n3_:=Aside0.mk ((by rw [hg];exact (below_size (by repeat (first|(with_reducible first|exact HB.out|apply below_alloc|apply pw_below_drewN|apply below_drew1)|exact HB.out))):w.heap.size≤gb144));clear HB;have HB:=n0_;have BK144:=n1_;have GW144:=n2_;have GE144:=n3_;clear n0_ n1_ n2_ n3_;clear hb hbox hg;have hcz30_0:w29.cell? ⟨gb144,0,none⟩=some (.string a0_0):=(blk_cell BK144.out 0).trans rfl;have hcz30_1:w29.cell? ⟨gb144,1,none⟩=some (.slice A0_1 l0_1.length c0_1):=(blk_cell BK144.out 1).trans rfl;have hcz30_2:w29.cell? ⟨gb144,2,none⟩=some (.slice A0_2 l0_2.length c0_2):=(blk_cell BK144.out 2).trans rfl;have hfz30_0:=blk_frozen BK144.out 0;have hfz30_1:=blk_frozen BK144.out 1;have hfz30_2:=blk_frozen BK144.out 2)|((with_reducible refine gate_callee (f:=63) rfl ?_);refine goesL_ (some 7) rfl rfl Tryd.func63 (by kernel_rfl) rfl #[.string a0_0] rfl (by (try simp only [List.map_toArray,List.map_cons,List.map_nil]);first|done|rfl|(simp only [List.length_drop,List.length_take];rfl)) ?_;(with_reducible refine (impl_DomainOk.calls k a0_0 false _ ?side1 A2.out).mono ?_);(case side1=>first|(with_reducible exact HG.out)|((with_reducible repeat (first|exact HG.out|apply GOK.drewN|apply GOK.drew));done)|exact GOK.below HG.out (by repeat (first|(with_reducible first|exact HB.out|apply below_alloc|apply pw_below_drewN|apply below_drew1|refine below_set ?_ GE144.out)|exact HB.out)));rintro e w31 ⟨rfl,hb⟩;refine ⟨_,rfl,?_⟩;have n0_:=Aside0.mk (blk_below (g:=gb144) (o:=.cells #[.string a0_0,.slice A0_1 l0_1.length c0_1,.slice A0_2 l0_2.length c0_2] 44 (0,0)) (by (with_reducible repeat (first|refine blk_drewN ?_ _|refine blk_drew ?_|refine blk_alloc ?_ _));exact BK144.out) hb);have n1_:=Aside0.mk (below_step (by repeat (first|(with_reducible first|exact HB.out|apply below_alloc|apply pw_below_drewN|apply below_drew1|refine below_set ?_ GE144.out)|exact HB.out)) hb);clear BK144;clear HB;have BK144:=n0_;have HB:=n1_;clear n0_ n1_;(try clear hb);(try clear hb2);(try clear hk);(try clear hi)))
    go_ret
    exact ⟨by first|rfl|(simp [errW_none,errW_some]<;>rfl)|(simp [*,errW_none,errW_some]<;>rfl),by repeat (first|(with_reducible first|exact HB.out|apply below_alloc|apply pw_below_drewN|apply below_drew1|refine below_set ?_ GE144.out)|exact HB.out)⟩
def slices_Index_string_string.l0:Nat→List ByteArray→ByteArray→Int→Int→Option (Int)
  | 0,_,_,_,_=>none
  | k+1,x0,x1,x7,x8=>if x8 < x7 then (if 0≤x8 then (if x8 < (x0.length:Int) then (if x1.toList=(rdOf ByteArray.empty x0 x8).toList then (some x8) else (slices_Index_string_string.l0 k x0 x1 x7 (wrap64 (x8+1)))) else (none)) else (none)) else (some (-1))
def slices_Index_string_string.f (k:Nat) (l0:List ByteArray) (a1:ByteArray):Option (Int):=slices_Index_string_string.l0 k l0 a1 (l0.length:Int) 0
set_option maxHeartbeats 8000000 in
set_option maxRecDepth 100000 in
theorem slices_Index_string_string.calls (k:Nat) (A0:Option Addr) (c0:Nat) (l0:List ByteArray) (a1:ByteArray) (r:Int) (w:World) (hr0:Kd.C Kd.string w A0 l0.length l0) (hc0:l0.length≤c0) (h:slices_Index_string_string.f k l0 a1=some r) :
    Calls Tryd.prog 153 #[.slice A0 l0.length c0,.string a1] w fun e w'=>e=.returned (.int .i64 r)∧Drawn0 w w':=by
  have HR0:=Aside0.mk hr0
  have HC0:=Aside0.mk hc0
  clear hr0 hc0
  have H:(slices_Index_string_string.l0 k l0 a1 (l0.length:Int) 0)=some r:=h
  clear h
  have H':=Aside0.mk H
  clear H
  go_enter Tryd.func153,Tryd.ntmps153
  go_wp2
  go_loopg [8] k (fun kq v8 w'=>∃ (x8_1:Int),v8=.int .i64 x8_1∧Aside0 (slices_Index_string_string.l0 kq l0 a1 (l0.length:Int) x8_1=some r)∧Aside0 (kq≤k)∧Drawn0 w w')
  case atStart=>exact ⟨(0),(by first|rfl|(simp;done)|(simp [*];done)),H',⟨Nat.le_refl _⟩,by repeat (first|exact Drawn0.refl _|apply Drawn0.step)⟩
  case round =>
    clear H'
    try clear c1
    try clear p2
    obtain ⟨x8_1,rfl,HA,HK1,⟨m1,rfl⟩⟩:=hrel
    cases gk with
    | zero=>exact absurd HA.out (by simp [slices_Index_string_string.l0])
    | succ k1 =>
      have H:=HA.out
      clear HA
      simp only [slices_Index_string_string.l0] at H
      by_cases c3:x8_1 < (l0.length:Int)
      · rw [if_pos c3] at H
        have c3b0:decide (x8_1 < (l0.length:Int))=true:=decide_eq_true c3
        clear c3
        by_cases c4:0≤x8_1
        · rw [if_pos c4] at H
          have c4b0:decide (0≤x8_1)=true:=decide_eq_true c4
          clear c4
          by_cases c5:x8_1 < (l0.length:Int)
          · rw [if_pos c5] at H
            have c5b0:decide (x8_1 < (l0.length:Int))=true:=decide_eq_true c5
            clear c5
            by_cases c6:a1.toList=(rdOf ByteArray.empty l0 x8_1).toList
            · rw [if_pos c6] at H
              have c6b0:(a1.toList==(rdOf ByteArray.empty l0 x8_1).toList)=true:=beq_iff_eq.mpr c6
              have c6b1:(a1.toList != (rdOf ByteArray.empty l0 x8_1).toList)=false:=bne_eq_false_iff_eq.mpr c6
              clear c6
              obtain rfl:=Option.some.inj H
              have p138:0≤(x8_1:Int):=of_decide_eq_true (by first|(with_reducible assumption)|assumption)
              have q138:x8_1 < (l0.length:Int):=of_decide_eq_true (by first|(with_reducible assumption)|assumption)
              obtain ⟨ad138,e138,hx138_0⟩:=Kd.at_string HR0.out x8_1 p138 q138
              cases e138
              replace p138:=eq_true p138
              replace q138:=eq_true q138
              go_wp2
              go_ret
              exact ⟨by first|rfl|(simp;done)|(simp [*];done),by repeat (first|exact Drawn0.refl _|apply Drawn0.step)⟩
            · rw [if_neg c6] at H
              have c6b0:(a1.toList==(rdOf ByteArray.empty l0 x8_1).toList)=false:=beq_eq_false_iff_ne.mpr c6
              have c6b1:(a1.toList != (rdOf ByteArray.empty l0 x8_1).toList)=true:=bne_iff_ne.mpr c6
              have H':=Aside0.mk H
              clear H
              have p138:0≤(x8_1:Int):=of_decide_eq_true (by first|(with_reducible assumption)|assumption)
              have q138:x8_1 < (l0.length:Int):=of_decide_eq_true (by first|(with_reducible assumption)|assumption)
              obtain ⟨ad138,e138,hx138_0⟩:=Kd.at_string HR0.out x8_1 p138 q138
              cases e138
              replace p138:=eq_true p138
              replace q138:=eq_true q138
              go_wp2
              go_roundg k1
              case measure=>have:=HK1.out;omega
              case rel=>exact ⟨(wrap64 (x8_1+1)),(by first|rfl|(simp;done)|(simp [*];done)),H',⟨by have:=HK1.out;omega⟩,by repeat (first|exact Drawn0.refl _|apply Drawn0.step)⟩
          · rw [if_neg c5] at H
            exact absurd H (by simp)
        · rw [if_neg c4] at H
          exact absurd H (by simp)
      · rw [if_neg c3] at H
        have c3b0:decide (x8_1 < (l0.length:Int))=false:=decide_eq_false c3
        clear c3
        obtain rfl:=Option.some.inj H
        go_wp2
        go_ret
        exact ⟨by first|rfl|(simp;done)|(simp [*];done),by repeat (first|exact Drawn0.refl _|apply Drawn0.step)⟩
def slices_Contains_string_string.f (k:Nat) (l0:List ByteArray) (a1:ByteArray):Option (Bool):=(slices_Index_string_string.f k l0 a1).bind fun t139=>(some (decide (t139≥0)))
set_option maxHeartbeats 8000000 in
set_option maxRecDepth 100000 in
theorem slices_Contains_string_string.calls (k:Nat) (A0:Option Addr) (c0:Nat) (l0:List ByteArray) (a1:ByteArray) (r:Bool) (w:World) (hr0:Kd.C Kd.string w A0 l0.length l0) (hc0:l0.length≤c0) (h:slices_Contains_string_string.f k l0 a1=some r) :
    Calls Tryd.prog 135 #[.slice A0 l0.length c0,.string a1] w fun e w'=>e=.returned (.bool r)∧Drawn0 w w':=by
  have HR0:=Aside0.mk hr0
  have HC0:=Aside0.mk hc0
  clear hr0 hc0
  have H:((slices_Index_string_string.f k l0 a1).bind fun t139=>(some (decide (t139≥0))))=some r:=h
  clear h
  replace H:=Option.bind_eq_some_iff.mp H
  obtain ⟨t139,A30,H⟩:=H
  replace H:(some (decide (t139≥0)))=some r:=H
  have A3:=Aside0.mk A30
  clear A30
  obtain rfl:=Option.some.inj H
  go_enter Tryd.func135,Tryd.ntmps135
  go_wp2_with (first|((with_reducible refine gate_callee (f:=153) rfl ?_);refine goesL_ (some 7) rfl rfl Tryd.func153 (by kernel_rfl) rfl #[.slice A0 l0.length c0,.string a1] rfl (by (try simp only [List.map_toArray,List.map_cons,List.map_nil]);first|done|rfl|(simp only [List.length_drop,List.length_take];rfl)) ?_;(with_reducible refine (slices_Index_string_string.calls k _ _ l0 a1 t139 _ ?side1 ?side2 A3.out).mono ?_);(case side1=>repeat (first|exact HR0.out|(with_reducible refine Kd.C_alloc ?_ _)|(with_reducible refine Kd.C_drewN ?_ _)|(with_reducible refine Kd.C_drew ?_)));(case side2=>exact HC0.out);rintro e w' ⟨rfl,⟨nd,rfl⟩⟩;refine ⟨_,rfl,?_⟩))
  go_ret
  exact ⟨by first|rfl|(simp;done)|(simp [*];done),by repeat (first|exact Drawn0.refl _|apply Drawn0.step)⟩
def impl_Conf_local.f (k:Nat) (a0_0:ByteArray) (l0_1:List ByteArray) (l0_2:List (S117)) (a1:ByteArray):Option (Bool):=(slices_Contains_string_string.f k l0_1 a1).bind fun t141=>(some t141)
set_option maxHeartbeats 8000000 in
set_option maxRecDepth 100000 in
theorem impl_Conf_local.calls (k:Nat) (a0_0:ByteArray) (A0_1:Option Addr) (c0_1:Nat) (l0_1:List ByteArray) (A0_2:Option Addr) (c0_2:Nat) (l0_2:List (S117)) (a1:ByteArray) (r:Bool) (w:World) (hr0_1:Kd.C Kd.string w A0_1 l0_1.length l0_1) (hc0_1:l0_1.length≤c0_1) (hr0_2:Kd.C k117 w A0_2 l0_2.length l0_2) (hc0_2:l0_2.length≤c0_2) (h:impl_Conf_local.f k a0_0 l0_1 l0_2 a1=some r) :
    Calls Tryd.prog 108 #[.agg #[.string a0_0,.slice A0_1 l0_1.length c0_1,.slice A0_2 l0_2.length c0_2],.string a1] w fun e w'=>e=.returned (.bool r)∧Below w.heap.size w w':=by
  have hu44:=Tryd.underlying44
  have HR0_1:=Aside0.mk hr0_1
  have HC0_1:=Aside0.mk hc0_1
  clear hr0_1 hc0_1
  have HR0_2:=Aside0.mk hr0_2
  have HC0_2:=Aside0.mk hc0_2
  clear hr0_2 hc0_2
  have HB:=Aside0.mk (Below.refl w.heap.size w)
  have H:((slices_Contains_string_string.f k l0_1 a1).bind fun t141=>(some t141))=some r:=h
  clear h
  replace H:=Option.bind_eq_some_iff.mp H
  obtain ⟨t141,A30,H⟩:=H
  replace H:(some t141)=some r:=H
  have A3:=Aside0.mk A30
  clear A30
  obtain rfl:=Option.some.inj H
  go_enter Tryd.func108,Tryd.ntmps108
  go_wp2_with (first|((with_reducible refine gate_dst (N:=2) rfl ?_);refine box_event ?hg (N:=2) ?hd (cs:=#[.string a0_0,.slice A0_1 l0_1.length c0_1,.slice A0_2 l0_2.length c0_2]) (t:=44) ?hr ?_;(case hd=>rfl);(case hg=>rfl);(case hr=>first|(go_simp;done)|(go_simp;rfl));intro gb140 hg w4 hbox hb;have n0_:=Aside0.mk (below_step (by repeat (first|(with_reducible first|exact HB.out|apply below_alloc|apply pw_below_drewN|apply below_drew1)|exact HB.out)) hb);have n1_:=Aside0.mk (hbox);have n2_:=Aside0.mk ((by rw [hg];exact (below_size (by repeat (first|(with_reducible first|exact HB.out|apply below_alloc|apply pw_below_drewN|apply below_drew1)|exact HB.out))):w.heap.size≤gb140));have n3_:=Aside0.mk ((by rw [hg];exact (below_size (by repeat (first|(with_reducible first|exact HB.out|apply below_alloc|apply pw_below_drewN|apply below_drew1)|exact HB.out))):w.heap.size≤gb140));clear HB;have HB:=n0_;have BK140:=n1_;have GW140:=n2_;have GE140:=n3_;clear n0_ n1_ n2_ n3_;clear hb hbox hg;have hcz5_0:w4.cell? ⟨gb140,0,none⟩=some (.string a0_0):=(blk_cell BK140.out 0).trans rfl;have hcz5_1:w4.cell? ⟨gb140,1,none⟩=some (.slice A0_1 l0_1.length c0_1):=(blk_cell BK140.out 1).trans rfl;have hcz5_2:w4.cell? ⟨gb140,2,none⟩=some (.slice A0_2 l0_2.length c0_2):=(blk_cell BK140.out 2).trans rfl;have hfz5_0:=blk_frozen BK140.out 0;have hfz5_1:=blk_frozen BK140.out 1;have hfz5_2:=blk_frozen BK140.out 2)|((with_reducible refine gate_callee (f:=135) rfl ?_);refine goesL_ (some 8) rfl rfl Tryd.func135 (by kernel_rfl) rfl #[.slice A0_1 l0_1.length c0_1,.string a1] rfl (by (try simp only [List.map_toArray,List.map_cons,List.map_nil]);first|done|rfl|(simp only [List.length_drop,List.length_take];rfl)) ?_;(with_reducible refine (slices_Contains_string_string.calls k _ _ l0_1 a1 t141 _ ?side1 ?side2 A3.out).mono ?_);(case side1=>repeat (first|exact (Kd.C_below HR0_1.out HB.out)|(with_reducible refine Kd.C_alloc ?_ _)|(with_reducible refine Kd.C_drewN ?_ _)|(with_reducible refine Kd.C_drew ?_)));(case side2=>exact HC0_1.out);rintro e w' ⟨rfl,⟨nd,rfl⟩⟩;refine ⟨_,rfl,?_⟩))
  go_ret
  exact ⟨by first|rfl|(simp [errW_none,errW_some]<;>rfl)|(simp [*,errW_none,errW_some]<;>rfl),by repeat (first|(with_reducible first|exact HB.out|apply below_alloc|apply pw_below_drewN|apply below_drew1|refine below_set ?_ GE140.out)|exact HB.out)⟩
end Go.Proofs.YthkibaldmjfmmaaDoor.Q
