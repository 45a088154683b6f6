/- Of a text of ours what this claim needs. -/
import Derived.Test.YthkibaldmjfmmaaDoorZzFnExactConfTakesWQ0
import Derived.Test.YthkibaldmjfmmaaDoorZzFnExactConfTakesWQ5
import Derived.Test.YthkibaldmjfmmaaDoorZzFnExactConfTakesWQ8
import Derived.Test.YthkibaldmjfmmaaDoorZzFnExactConfTakesWQ15
import Derived.Test.YthkibaldmjfmmaaDoorZzFnExactConfTakesWQ16
import Derived.Test.YthkibaldmjfmmaaDoorZzFnExactConfTakesWHSplit
namespace Go.Proofs.YthkibaldmjfmmaaDoor.Q
open Go.RowKit Go.Proofs.YthkibaldmjfmmaaDoorW.PrintWords Go.Proofs.YthkibaldmjfmmaaDoorW.PrintLast Go.Proofs.YthkibaldmjfmmaaDoorW.PrintMore
attribute [local go_sem] max2_int min2_int max_two min_two max_three min_three max_four min_four
set_option linter.unusedVariables false
set_option linter.unusedSimpArgs false
def impl_ConfOk_1.f (k:Nat) (a0:ByteArray):Option (Bool):=(impl_DomainOk.f k a0).bind fun t138=>(some (!t138))
set_option maxHeartbeats 8000000 in
set_option maxRecDepth 100000 in
theorem impl_ConfOk_1.calls (k:Nat) (a0:ByteArray) (r:Bool) (w:World) (hG:GOK w) (h:impl_ConfOk_1.f k a0=some r) :
    Calls Tryd.prog 104 #[.string a0] w fun e w'=>e=.returned (.bool r)∧Below w.heap.size w w':=by
  have HG:=Aside0.mk hG
  clear hG
  have HB:=Aside0.mk (Below.refl w.heap.size w)
  have H:((impl_DomainOk.f k a0).bind fun t138=>(some (!t138)))=some r:=h
  clear h
  replace H:=Option.bind_eq_some_iff.mp H
  obtain ⟨t138,A20,H⟩:=H
  replace H:(some (!t138))=some r:=H
  have A2:=Aside0.mk A20
  clear A20
  obtain rfl:=Option.some.inj H
  go_enter Tryd.func104,Tryd.ntmps104
  go_wp2_with (first|((with_reducible refine gate_callee (f:=63) rfl ?_);refine goesL_ (some 4) rfl rfl Tryd.func63 (by kernel_rfl) rfl #[.string a0] rfl (by (try simp only [List.map_toArray,List.map_cons,List.map_nil]);first|done|rfl|(simp only [List.length_drop,List.length_take];rfl)) ?_;(with_reducible refine (impl_DomainOk.calls k a0 t138 _ ?side1 A2.out).mono ?_);(case side1=>first|(with_reducible exact HG.out)|((with_reducible repeat (first|exact HG.out|apply GOK.drewN|apply GOK.drew));done)|exact GOK.below HG.out (by repeat (first|(with_reducible first|exact HB.out|apply below_alloc|apply pw_below_drewN|apply below_drew1)|exact HB.out)));rintro e w3 ⟨rfl,hb⟩;refine ⟨_,rfl,?_⟩;have n0_:=Aside0.mk (below_step (by repeat (first|(with_reducible first|exact HB.out|apply below_alloc|apply pw_below_drewN|apply below_drew1)|exact HB.out)) hb);clear HB;have HB:=n0_;clear n0_;(try clear hb);(try clear hb2);(try clear hk);(try clear hi)))
  go_ret
  exact ⟨by first|rfl|(simp [errW_none,errW_some]<;>rfl)|(simp [*,errW_none,errW_some]<;>rfl),by repeat (first|(with_reducible first|exact HB.out|apply below_alloc|apply pw_below_drewN|apply below_drew1)|exact HB.out)⟩
def slices_IndexFunc_string_string_at104.l0:Nat→List ByteArray→Int→Int→Option (Int)
  | 0,_,_,_=>none
  | k+1,x0,x7,x8=>if x8 < x7 then (if 0≤x8 then (if x8 < (x0.length:Int) then ((impl_ConfOk_1.f k (rdOf ByteArray.empty x0 x8)).bind fun t140=>(if t140=true then (some x8) else (slices_IndexFunc_string_string_at104.l0 k x0 x7 (wrap64 (x8+1))))) else (none)) else (none)) else (some (-1))
def slices_IndexFunc_string_string_at104.f (k:Nat) (l0:List ByteArray) :Option (Int):=slices_IndexFunc_string_string_at104.l0 k l0 (l0.length:Int) 0
set_option maxHeartbeats 8000000 in
set_option maxRecDepth 100000 in
theorem slices_IndexFunc_string_string_at104.calls (k:Nat) (A0:Option Addr) (c0:Nat) (l0:List ByteArray)  (r:Int) (w:World) (hr0:Kd.C Kd.string w A0 l0.length l0) (hc0:l0.length≤c0) (hG:GOK w) (h:slices_IndexFunc_string_string_at104.f k l0=some r) :
    Calls Tryd.prog 132 #[.slice A0 l0.length c0,.func (.func 104) #[] #[]] w fun e w'=>e=.returned (.int .i64 r)∧Below w.heap.size w w':=by
  have HR0:=Aside0.mk hr0
  have HC0:=Aside0.mk hc0
  clear hr0 hc0
  have HG:=Aside0.mk hG
  clear hG
  have HB:=Aside0.mk (Below.refl w.heap.size w)
  have H:(slices_IndexFunc_string_string_at104.l0 k l0 (l0.length:Int) 0)=some r:=h
  clear h
  have H':=Aside0.mk H
  clear H
  go_enter Tryd.func132,Tryd.ntmps132
  go_wp2
  go_loopg [8] k (fun kq v8 w'=>∃ (x8_1:Int),v8=.int .i64 x8_1∧Aside0 (slices_IndexFunc_string_string_at104.l0 kq l0 (l0.length:Int) x8_1=some r)∧Aside0 (kq≤k)∧Aside0 (Below w.heap.size w w'))
  case atStart=>exact ⟨(0),(by first|rfl|(simp;done)|(simp [*];done)),H',⟨Nat.le_refl _⟩,⟨by repeat (first|(with_reducible first|exact HB.out|apply below_alloc|apply pw_below_drewN|apply below_drew1)|exact HB.out)⟩⟩
  case round =>
    clear H'
    try clear p2
    obtain ⟨x8_1,rfl,HA,HK1,HB⟩:=hrel
    cases gk with
    | zero=>exact absurd HA.out (by simp [slices_IndexFunc_string_string_at104.l0])
    | succ k1 =>
      have H:=HA.out
      clear HA
      simp only [slices_IndexFunc_string_string_at104.l0] at H
      by_cases c3:x8_1 < (l0.length:Int)
      · rw [if_pos c3] at H
        have c3b0:decide (x8_1 < (l0.length:Int))=true:=decide_eq_true c3
        clear c3
        by_cases c4:0≤x8_1
        · rw [if_pos c4] at H
          have c4b0:decide (0≤x8_1)=true:=decide_eq_true c4
          clear c4
          by_cases c5:x8_1 < (l0.length:Int)
          · rw [if_pos c5] at H
            have c5b0:decide (x8_1 < (l0.length:Int))=true:=decide_eq_true c5
            clear c5
            replace H:=Option.bind_eq_some_iff.mp H
            obtain ⟨t140,A60,H⟩:=H
            replace H:(if t140=true then (some x8_1) else (slices_IndexFunc_string_string_at104.l0 k1 l0 (l0.length:Int) (wrap64 (x8_1+1))))=some r:=H
            have A6:=Aside0.mk A60
            clear A60
            by_cases c7:t140=true
            · subst c7
              have H1:(some x8_1)=some r:=by rw [if_pos rfl] at H;exact H
              clear H
              have H:=H1
              clear H1
              obtain rfl:=Option.some.inj H
              have p139:0≤(x8_1:Int):=of_decide_eq_true (by first|(with_reducible assumption)|assumption)
              have q139:x8_1 < (l0.length:Int):=of_decide_eq_true (by first|(with_reducible assumption)|assumption)
              obtain ⟨ad139,e139,hx139_0⟩:=Kd.at_string HR0.out x8_1 p139 q139
              cases e139
              replace hx139_0:=(HB.out.cell (World.block_lt_of_cell? w _ hx139_0)).trans hx139_0
              replace p139:=eq_true p139
              replace q139:=eq_true q139
              go_wp2_with (first|(go_at_call 104;(with_reducible refine (impl_ConfOk_1.calls k1 (rdOf ByteArray.empty l0 x8_1) true _ ?side1 A6.out).mono ?_);(case side1=>first|(with_reducible exact HG.out)|((with_reducible repeat (first|exact HG.out|apply GOK.drewN|apply GOK.drew));done)|exact GOK.below HG.out (by repeat (first|(with_reducible first|exact HB.out|apply below_alloc|apply pw_below_drewN|apply below_drew1)|exact HB.out)));rintro e w8 ⟨rfl,hb⟩;have n0_:=Aside0.mk (below_step (by repeat (first|(with_reducible first|exact HB.out|apply below_alloc|apply pw_below_drewN|apply below_drew1)|exact HB.out)) hb);clear HB;have HB:=n0_;clear n0_;(try clear hb);(try clear hb2);(try clear hk);(try clear hi)))
              go_ret
              exact ⟨by first|rfl|(simp [errW_none,errW_some]<;>rfl)|(simp [*,errW_none,errW_some]<;>rfl),by repeat (first|(with_reducible first|exact HB.out|apply below_alloc|apply pw_below_drewN|apply below_drew1)|exact HB.out)⟩
            · replace c7:=Bool.eq_false_iff.mpr c7
              subst c7
              have H1:(slices_IndexFunc_string_string_at104.l0 k1 l0 (l0.length:Int) (wrap64 (x8_1+1)))=some r:=by rw [if_neg (show ¬ (false=true) by decide)] at H;exact H
              clear H
              have H:=H1
              clear H1
              have H':=Aside0.mk H
              clear H
              have p139:0≤(x8_1:Int):=of_decide_eq_true (by first|(with_reducible assumption)|assumption)
              have q139:x8_1 < (l0.length:Int):=of_decide_eq_true (by first|(with_reducible assumption)|assumption)
              obtain ⟨ad139,e139,hx139_0⟩:=Kd.at_string HR0.out x8_1 p139 q139
              cases e139
              replace hx139_0:=(HB.out.cell (World.block_lt_of_cell? w _ hx139_0)).trans hx139_0
              replace p139:=eq_true p139
              replace q139:=eq_true q139
              go_wp2_with (first|(go_at_call 104;(with_reducible refine (impl_ConfOk_1.calls k1 (rdOf ByteArray.empty l0 x8_1) false _ ?side1 A6.out).mono ?_);(case side1=>first|(with_reducible exact HG.out)|((with_reducible repeat (first|exact HG.out|apply GOK.drewN|apply GOK.drew));done)|exact GOK.below HG.out (by repeat (first|(with_reducible first|exact HB.out|apply below_alloc|apply pw_below_drewN|apply below_drew1)|exact HB.out)));rintro e w9 ⟨rfl,hb⟩;have n0_:=Aside0.mk (below_step (by repeat (first|(with_reducible first|exact HB.out|apply below_alloc|apply pw_below_drewN|apply below_drew1)|exact HB.out)) hb);clear HB;have HB:=n0_;clear n0_;(try clear hb);(try clear hb2);(try clear hk);(try clear hi)))
              go_roundg k1
              case measure=>have:=HK1.out;omega
              case rel=>exact ⟨(wrap64 (x8_1+1)),(by first|rfl|(simp;done)|(simp [*];done)),H',⟨by have:=HK1.out;omega⟩,⟨by repeat (first|(with_reducible first|exact HB.out|apply below_alloc|apply pw_below_drewN|apply below_drew1)|exact HB.out)⟩⟩
          · rw [if_neg c5] at H
            exact absurd H (by simp)
        · rw [if_neg c4] at H
          exact absurd H (by simp)
      · rw [if_neg c3] at H
        have c3b0:decide (x8_1 < (l0.length:Int))=false:=decide_eq_false c3
        clear c3
        obtain rfl:=Option.some.inj H
        go_wp2
        go_ret
        exact ⟨by first|rfl|(simp [errW_none,errW_some]<;>rfl)|(simp [*,errW_none,errW_some]<;>rfl),by repeat (first|(with_reducible first|exact HB.out|apply below_alloc|apply pw_below_drewN|apply below_drew1)|exact HB.out)⟩
def slices_ContainsFunc_string_string_at104.f (k:Nat) (l0:List ByteArray) :Option (Bool):=(slices_IndexFunc_string_string_at104.f k l0).bind fun t141=>(some (decide (t141≥0)))
set_option maxHeartbeats 8000000 in
set_option maxRecDepth 100000 in
theorem slices_ContainsFunc_string_string_at104.calls (k:Nat) (A0:Option Addr) (c0:Nat) (l0:List ByteArray)  (r:Bool) (w:World) (hr0:Kd.C Kd.string w A0 l0.length l0) (hc0:l0.length≤c0) (hG:GOK w) (h:slices_ContainsFunc_string_string_at104.f k l0=some r) :
    Calls Tryd.prog 96 #[.slice A0 l0.length c0,.func (.func 104) #[] #[]] w fun e w'=>e=.returned (.bool r)∧Below w.heap.size w w':=by
  have HR0:=Aside0.mk hr0
  have HC0:=Aside0.mk hc0
  clear hr0 hc0
  have HG:=Aside0.mk hG
  clear hG
  have HB:=Aside0.mk (Below.refl w.heap.size w)
  have H:((slices_IndexFunc_string_string_at104.f k l0).bind fun t141=>(some (decide (t141≥0))))=some r:=h
  clear h
  replace H:=Option.bind_eq_some_iff.mp H
  obtain ⟨t141,A30,H⟩:=H
  replace H:(some (decide (t141≥0)))=some r:=H
  have A3:=Aside0.mk A30
  clear A30
  obtain rfl:=Option.some.inj H
  go_enter Tryd.func96,Tryd.ntmps96
  go_wp2_with (first|((with_reducible refine gate_callee (f:=132) rfl ?_);refine goesL_ (some 7) rfl rfl Tryd.func132 (by kernel_rfl) rfl #[.slice A0 l0.length c0,.func (.func 104) #[] #[]] rfl (by (try simp only [List.map_toArray,List.map_cons,List.map_nil]);first|done|rfl|(simp only [List.length_drop,List.length_take];rfl)) ?_;(with_reducible refine (slices_IndexFunc_string_string_at104.calls k _ _ l0  t141 _ ?side1 ?side2 ?side3 A3.out).mono ?_);(case side1=>repeat (first|exact HR0.out|(with_reducible refine Kd.C_alloc ?_ _)|(with_reducible refine Kd.C_drewN ?_ _)|(with_reducible refine Kd.C_drew ?_)));(case side2=>exact HC0.out);(case side3=>first|(with_reducible exact HG.out)|((with_reducible repeat (first|exact HG.out|apply GOK.drewN|apply GOK.drew));done)|exact GOK.below HG.out (by repeat (first|(with_reducible first|exact HB.out|apply below_alloc|apply pw_below_drewN|apply below_drew1)|exact HB.out)));rintro e w4 ⟨rfl,hb⟩;refine ⟨_,rfl,?_⟩;have n0_:=Aside0.mk (below_step (by repeat (first|(with_reducible first|exact HB.out|apply below_alloc|apply pw_below_drewN|apply below_drew1)|exact HB.out)) hb);clear HB;have HB:=n0_;clear n0_;(try clear hb);(try clear hb2);(try clear hk);(try clear hi)))
  go_ret
  exact ⟨by first|rfl|(simp [errW_none,errW_some]<;>rfl)|(simp [*,errW_none,errW_some]<;>rfl),by repeat (first|(with_reducible first|exact HB.out|apply below_alloc|apply pw_below_drewN|apply below_drew1)|exact HB.out)⟩
def impl_ConfOk_2.f (k:Nat) (a0_0:ByteArray) (a0_1:ByteArray):Option (Bool):=(impl_DomainOk.f k a0_0).bind fun t139=>(if t139=true then ((impl_DomainOk.f k a0_1).bind fun t140=>(some (!t140))) else (some true))
set_option maxHeartbeats 8000000 in
set_option maxRecDepth 100000 in
theorem impl_ConfOk_2.calls (k:Nat) (a0_0:ByteArray) (a0_1:ByteArray) (r:Bool) (w:World) (hG:GOK w) (h:impl_ConfOk_2.f k a0_0 a0_1=some r) :
    Calls Tryd.prog 105 #[.agg #[.string a0_0,.string a0_1]] w fun e w'=>e=.returned (.bool r)∧Below w.heap.size w w':=by
  have hu117:=Tryd.underlying117
  have HG:=Aside0.mk hG
  clear hG
  have HB:=Aside0.mk (Below.refl w.heap.size w)
  have H:((impl_DomainOk.f k a0_0).bind fun t139=>(if t139=true then ((impl_DomainOk.f k a0_1).bind fun t140=>(some (!t140))) else (some true)))=some r:=h
  clear h
  replace H:=Option.bind_eq_some_iff.mp H
  obtain ⟨t139,A20,H⟩:=H
  replace H:(if t139=true then ((impl_DomainOk.f k a0_1).bind fun t140=>(some (!t140))) else (some true))=some r:=H
  have A2:=Aside0.mk A20
  clear A20
  by_cases c3:t139=true
  · subst c3
    have H1:((impl_DomainOk.f k a0_1).bind fun t140=>(some (!t140)))=some r:=by rw [if_pos rfl] at H;exact H
    clear H
    have H:=H1
    clear H1
    replace H:=Option.bind_eq_some_iff.mp H
    obtain ⟨t140,A40,H⟩:=H
    replace H:(some (!t140))=some r:=H
    have A4:=Aside0.mk A40
    clear A40
    obtain rfl:=Option.some.inj H
    go_enter Tryd.func105,Tryd.ntmps105
    go_wp2_with (first|((with_reducible refine gate_dst (N:=1) rfl ?_);refine box_event ?hg (N:=1) ?hd (cs:=#[.string a0_0,.string a0_1]) (t:=117) ?hr ?_;(case hd=>rfl);(case hg=>rfl);(case hr=>first|(go_simp;done)|(go_simp;rfl));intro gb138 hg w5 hbox hb;have n0_:=Aside0.mk (below_step (by repeat (first|(with_reducible first|exact HB.out|apply below_alloc|apply pw_below_drewN|apply below_drew1)|exact HB.out)) hb);have n1_:=Aside0.mk (hbox);have n2_:=Aside0.mk ((by rw [hg];exact (below_size (by repeat (first|(with_reducible first|exact HB.out|apply below_alloc|apply pw_below_drewN|apply below_drew1)|exact HB.out))):w.heap.size≤gb138));have n3_:=Aside0.mk ((by rw [hg];exact (below_size (by repeat (first|(with_reducible first|exact HB.out|apply below_alloc|apply pw_below_drewN|apply below_drew1)|exact HB.out))):w.heap.size≤gb138));clear HB;have HB:=n0_;have BK138:=n1_;have GW138:=n2_;have GE138:=n3_;clear n0_ n1_ n2_ n3_;clear hb hbox hg;have hcz6_0:w5.cell? ⟨gb138,0,none⟩=some (.string a0_0):=(blk_cell BK138.out 0).trans rfl;have hcz6_1:w5.cell? ⟨gb138,1,none⟩=some (.string a0_1):=(blk_cell BK138.out 1).trans rfl;have hfz6_0:=blk_frozen BK138.out 0;have hfz6_1:=blk_frozen BK138.out 1)|((with_reducible refine gate_callee (f:=63) rfl ?_);refine goesL_ (some 5) rfl rfl Tryd.func63 (by kernel_rfl) rfl #[.string a0_0] rfl (by (try simp only [List.map_toArray,List.map_cons,List.map_nil]);first|done|rfl|(simp only [List.length_drop,List.length_take];rfl)) ?_;(with_reducible refine (impl_DomainOk.calls k a0_0 true _ ?side1 A2.out).mono ?_);(case side1=>first|(with_reducible exact HG.out)|((with_reducible repeat (first|exact HG.out|apply GOK.drewN|apply GOK.drew));done)|exact GOK.below HG.out (by repeat (first|(with_reducible first|exact HB.out|apply below_alloc|apply pw_below_drewN|apply below_drew1|refine below_set ?_ GE138.out)|exact HB.out)));rintro e w7 ⟨rfl,hb⟩;refine ⟨_,rfl,?_⟩;have n0_:=Aside0.mk (blk_below (g:=gb138) (o:=.cells #[.string a0_0,.string a0_1] 117 (0,0)) (by (with_reducible repeat (first|refine blk_drewN ?_ _|refine blk_drew ?_|refine blk_alloc ?_ _));exact BK138.out) hb);have n1_:=Aside0.mk (below_step (by repeat (first|(with_reducible first|exact HB.out|apply below_alloc|apply pw_below_drewN|apply below_drew1|refine below_set ?_ GE138.out)|exact HB.out)) hb);clear BK138;clear HB;have BK138:=n0_;have HB:=n1_;clear n0_ n1_;(try clear hb);(try clear hb2);(try clear hk);(try clear hi);have hcz8_0:w7.cell? ⟨gb138,0,none⟩=some (.string a0_0):=(blk_cell BK138.out 0).trans rfl;have hcz8_1:w7.cell? ⟨gb138,1,none⟩=some (.string a0_1):=(blk_cell BK138.out 1).trans rfl;have hfz8_0:=blk_frozen BK138.out 0;have hfz8_1:=blk_frozen BK138.out 1)|(go_at_call 63;(with_reducible refine (impl_DomainOk.calls k a0_1 t140 _ ?side1 A4.out).mono ?_);(case side1=>first|(with_reducible exact HG.out)|((with_reducible repeat (first|exact HG.out|apply GOK.drewN|apply GOK.drew));done)|exact GOK.below HG.out (by repeat (first|(with_reducible first|exact HB.out|apply below_alloc|apply pw_below_drewN|apply below_drew1|refine below_set ?_ GE138.out)|exact HB.out)));rintro e w9 ⟨rfl,hb⟩;have n0_:=Aside0.mk (blk_below (g:=gb138) (o:=.cells #[.string a0_0,.string a0_1] 117 (0,0)) (by (with_reducible repeat (first|refine blk_drewN ?_ _|refine blk_drew ?_|refine blk_alloc ?_ _));exact BK138.out) hb);have n1_:=Aside0.mk (below_step (by repeat (first|(with_reducible first|exact HB.out|apply below_alloc|apply pw_below_drewN|apply below_drew1|refine below_set ?_ GE138.out)|exact HB.out)) hb);clear BK138;clear HB;have BK138:=n0_;have HB:=n1_;clear n0_ n1_;(try clear hb);(try clear hb2);(try clear hk);(try clear hi)))
    go_ret
    exact ⟨by first|rfl|(simp [errW_none,errW_some]<;>rfl)|(simp [*,errW_none,errW_some]<;>rfl),by repeat (first|(with_reducible first|exact HB.out|apply below_alloc|apply pw_below_drewN|apply below_drew1|refine below_set ?_ GE138.out)|exact HB.out)⟩
  · replace c3:=Bool.eq_false_iff.mpr c3
    subst c3
    have H1:(some true)=some r:=by rw [if_neg (show ¬ (false=true) by decide)] at H;exact H
    clear H
    have H:=H1
    clear H1
    obtain rfl:=Option.some.inj H
    go_enter Tryd.func105,Tryd.ntmps105
    go_wp2_with (first|((with_reducible refine gate_dst (N:=1) rfl ?_);refine box_event ?hg (N:=1) ?hd (cs:=#[.string a0_0,.string a0_1]) (t:=117) ?hr ?_;(case hd=>rfl);(case hg=>rfl);(case hr=>first|(go_simp;done)|(go_simp;rfl));intro gb138 hg w10 hbox hb;have n0_:=Aside0.mk (below_step (by repeat (first|(with_reducible first|exact HB.out|apply below_alloc|apply pw_below_drewN|apply below_drew1)|exact HB.out)) hb);have n1_:=Aside0.mk (hbox);have n2_:=Aside0.mk ((by rw [hg];exact (below_size (by repeat (first|(with_reducible first|exact HB.out|apply below_alloc|apply pw_below_drewN|apply below_drew1)|exact HB.out))):w.heap.size≤gb138));have n3_:=Aside0.mk ((by rw [hg];exact (below_size (by repeat (first|(with_reducible first|exact HB.out|apply below_alloc|apply pw_below_drewN|apply below_drew1)|exact HB.out))):w.heap.size≤gb138));clear HB;have HB:=n0_;have BK138:=n1_;have GW138:=n2_;have GE138:=n3_;clear n0_ n1_ n2_ n3_;clear hb hbox hg;have hcz11_0:w10.cell? ⟨gb138,0,none⟩=some (.string a0_0):=(blk_cell BK138.out 0).trans rfl;have hcz11_1:w10.cell? ⟨gb138,1,none⟩=some (.string a0_1):=(blk_cell BK138.out 1).trans rfl;have hfz11_0:=blk_frozen BK138.out 0;have hfz11_1:=blk_frozen BK138.out 1)|((with_reducible refine gate_callee (f:=63) rfl ?_);refine goesL_ (some 5) rfl rfl Tryd.func63 (by kernel_rfl) rfl #[.string a0_0] rfl (by (try simp only [List.map_toArray,List.map_cons,List.map_nil]);first|done|rfl|(simp only [List.length_drop,List.length_take];rfl)) ?_;(with_reducible refine (impl_DomainOk.calls k a0_0 false _ ?side1 A2.out).mono ?_);(case side1=>first|(with_reducible exact HG.out)|((with_reducible repeat (first|exact HG.out|apply GOK.drewN|apply GOK.drew));done)|exact GOK.below HG.out (by repeat (first|(with_reducible first|exact HB.out|apply below_alloc|apply pw_below_drewN|apply below_drew1|refine below_set ?_ GE138.out)|exact HB.out)));rintro e w12 ⟨rfl,hb⟩;refine ⟨_,rfl,?_⟩;have n0_:=Aside0.mk (blk_below (g:=gb138) (o:=.cells #[.string a0_0,.string a0_1] 117 (0,0)) (by (with_reducible repeat (first|refine blk_drewN ?_ _|refine blk_drew ?_|refine blk_alloc ?_ _));exact BK138.out) hb);have n1_:=Aside0.mk (below_step (by repeat (first|(with_reducible first|exact HB.out|apply below_alloc|apply pw_below_drewN|apply below_drew1|refine below_set ?_ GE138.out)|exact HB.out)) hb);clear BK138;clear HB;have BK138:=n0_;have HB:=n1_;clear n0_ n1_;(try clear hb);(try clear hb2);(try clear hk);(try clear hi)))
    go_ret
    exact ⟨by first|rfl|(simp [errW_none,errW_some]<;>rfl)|(simp [*,errW_none,errW_some]<;>rfl),by repeat (first|(with_reducible first|exact HB.out|apply below_alloc|apply pw_below_drewN|apply below_drew1|refine below_set ?_ GE138.out)|exact HB.out)⟩
end Go.Proofs.YthkibaldmjfmmaaDoor.Q
