/- Of a text of ours what this claim needs. -/
import Derived.Test.YthkibaldmjfmmaaDoorZzFnExactConfTakesWQ0
import Derived.Test.YthkibaldmjfmmaaDoorZzFnExactConfTakesWQ8
import Derived.Test.YthkibaldmjfmmaaDoorZzFnExactConfTakesWQ18
import Derived.Test.YthkibaldmjfmmaaDoorZzFnExactConfTakesWHSplit
namespace Go.Proofs.YthkibaldmjfmmaaDoor.Q
open Go.RowKit Go.Proofs.YthkibaldmjfmmaaDoorW.PrintWords Go.Proofs.YthkibaldmjfmmaaDoorW.PrintLast Go.Proofs.YthkibaldmjfmmaaDoorW.PrintMore
attribute [local go_sem] max2_int min2_int max_two min_two max_three min_three max_four min_four
set_option linter.unusedVariables false
set_option linter.unusedSimpArgs false
def stringslite_HasSuffix.f (a0:ByteArray) (a1:ByteArray):Option (Bool):=if (a0.size:Int)≥(a1.size:Int) then (if 0≤(wrap64 ((a0.size:Int) - (a1.size:Int))) then (if (wrap64 ((a0.size:Int) - (a1.size:Int)))≤(a0.size:Int) then (some ((a0.extract ((wrap64 ((a0.size:Int) - (a1.size:Int))):Int).toNat a0.size).toList==a1.toList)) else (none)) else (none)) else (some false)
set_option maxHeartbeats 8000000 in
set_option maxRecDepth 100000 in
theorem stringslite_HasSuffix.calls (a0:ByteArray) (a1:ByteArray) (r:Bool) (w:World) (h:stringslite_HasSuffix.f a0 a1=some r) :
    Calls Tryd.prog 154 #[.string a0,.string a1] w fun e w'=>e=.returned (.bool r)∧Drawn0 w w':=by
  have H:(if (a0.size:Int)≥(a1.size:Int) then (if 0≤(wrap64 ((a0.size:Int) - (a1.size:Int))) then (if (wrap64 ((a0.size:Int) - (a1.size:Int)))≤(a0.size:Int) then (some ((a0.extract ((wrap64 ((a0.size:Int) - (a1.size:Int))):Int).toNat a0.size).toList==a1.toList)) else (none)) else (none)) else (some false))=some r:=h
  clear h
  by_cases c3:(a0.size:Int)≥(a1.size:Int)
  · rw [if_pos c3] at H
    have c3b0:decide ((a1.size:Int)≤(a0.size:Int))=true:=decide_eq_true c3
    have c3b1:decide (a1.size≤a0.size)=true:=decide_eq_true (Int.ofNat_le.mp c3)
    clear c3
    obtain ⟨ji4,hji4⟩:∃ j_:Int,(wrap64 ((a0.size:Int) - (a1.size:Int)))=j_:=⟨_,rfl⟩
    replace H:(if 0≤(ji4) then (if (ji4)≤(a0.size:Int) then (some ((a0.extract ((ji4):Int).toNat a0.size).toList==a1.toList)) else (none)) else (none))=some r:=by first|(rw [hji4] at H;exact H)|(simp only [hji4] at H ⊢;exact H)
    have hji4w:(IntKind.i64.wrap ((a0.size:Int) - (a1.size:Int)))=ji4:=(i64_w _).trans hji4
    by_cases c5:0≤(ji4)
    · rw [if_pos c5] at H
      have c5b0:=eq_true c5
      have c5b1:decide (0≤(ji4))=true:=decide_eq_true c5
      clear c5
      by_cases c6:(ji4)≤(a0.size:Int)
      · rw [if_pos c6] at H
        have c6b0:=eq_true c6
        have c6b1:decide ((ji4)≤(a0.size:Int))=true:=decide_eq_true c6
        clear c6
        obtain rfl:=Option.some.inj H
        go_enter Tryd.func154,Tryd.ntmps154
        go_wp2
        go_ret
        exact ⟨by first|rfl|(simp;done)|(simp only [← hji4]<;>(first|rfl|simp))|(simp [*];done),by repeat (first|exact Drawn0.refl _|apply Drawn0.step)⟩
      · rw [if_neg c6] at H
        exact absurd H (by simp)
    · rw [if_neg c5] at H
      exact absurd H (by simp)
  · rw [if_neg c3] at H
    have c3b0:decide ((a1.size:Int)≤(a0.size:Int))=false:=decide_eq_false c3
    have c3b1:decide (a1.size≤a0.size)=false:=decide_eq_false (fun h=>c3 (Int.ofNat_le.mpr h))
    clear c3
    obtain rfl:=Option.some.inj H
    go_enter Tryd.func154,Tryd.ntmps154
    go_wp2
    go_ret
    exact ⟨by first|rfl|(simp;done)|(simp [*];done),by repeat (first|exact Drawn0.refl _|apply Drawn0.step)⟩
def strings_HasSuffix.f (a0:ByteArray) (a1:ByteArray):Option (Bool):=(stringslite_HasSuffix.f a0 a1).bind fun t138=>(some t138)
set_option maxHeartbeats 8000000 in
set_option maxRecDepth 100000 in
theorem strings_HasSuffix.calls (a0:ByteArray) (a1:ByteArray) (r:Bool) (w:World) (h:strings_HasSuffix.f a0 a1=some r) :
    Calls Tryd.prog 136 #[.string a0,.string a1] w fun e w'=>e=.returned (.bool r)∧Drawn0 w w':=by
  have H:((stringslite_HasSuffix.f a0 a1).bind fun t138=>(some t138))=some r:=h
  clear h
  replace H:=Option.bind_eq_some_iff.mp H
  obtain ⟨t138,A30,H⟩:=H
  replace H:(some t138)=some r:=H
  have A3:=Aside0.mk A30
  clear A30
  obtain rfl:=Option.some.inj H
  go_enter Tryd.func136,Tryd.ntmps136
  go_wp2_with (first|((with_reducible refine gate_callee (f:=154) rfl ?_);refine goesL_ (some 7) rfl rfl Tryd.func154 (by kernel_rfl) rfl #[.string a0,.string a1] rfl (by (try simp only [List.map_toArray,List.map_cons,List.map_nil]);first|done|rfl|(simp only [List.length_drop,List.length_take];rfl)) ?_;(with_reducible refine (stringslite_HasSuffix.calls a0 a1 t138 _ A3.out).mono ?_);rintro e w' ⟨rfl,⟨nd,rfl⟩⟩;refine ⟨_,rfl,?_⟩))
  go_ret
  exact ⟨by first|rfl|(simp;done)|(simp [*];done),by repeat (first|exact Drawn0.refl _|apply Drawn0.step)⟩
def impl_DomainIn.f (k:Nat) (a0:ByteArray) (a1:ByteArray):Option (Bool):=(impl_DomainOk.f k a0).bind fun t139=>(if t139=true then ((impl_DomainOk.f k a1).bind fun t140=>(if t140=true then (if a0.toList=a1.toList then (some true) else (if 1+a1.size≤9223372036854775807 then ((strings_HasSuffix.f a0 ((⟨#[46]⟩:ByteArray)++a1)).bind fun t141=>(some t141)) else (none))) else (some false))) else (some false))
set_option maxHeartbeats 8000000 in
set_option maxRecDepth 100000 in
theorem impl_DomainIn.calls (k:Nat) (a0:ByteArray) (a1:ByteArray) (r:Bool) (w:World) (hG:GOK w) (h:impl_DomainIn.f k a0 a1=some r) :
    Calls Tryd.prog 109 #[.string a0,.string a1] w fun e w'=>e=.returned (.bool r)∧Below w.heap.size w w':=by
  have HG:=Aside0.mk hG
  clear hG
  have HB:=Aside0.mk (Below.refl w.heap.size w)
  have H:((impl_DomainOk.f k a0).bind fun t139=>(if t139=true then ((impl_DomainOk.f k a1).bind fun t140=>(if t140=true then (if a0.toList=a1.toList then (some true) else (if 1+a1.size≤9223372036854775807 then ((strings_HasSuffix.f a0 ((⟨#[46]⟩:ByteArray)++a1)).bind fun t141=>(some t141)) else (none))) else (some false))) else (some false)))=some r:=h
  clear h
  replace H:=Option.bind_eq_some_iff.mp H
  obtain ⟨t139,A30,H⟩:=H
  replace H:(if t139=true then ((impl_DomainOk.f k a1).bind fun t140=>(if t140=true then (if a0.toList=a1.toList then (some true) else (if 1+a1.size≤9223372036854775807 then ((strings_HasSuffix.f a0 ((⟨#[46]⟩:ByteArray)++a1)).bind fun t141=>(some t141)) else (none))) else (some false))) else (some false))=some r:=H
  have A3:=Aside0.mk A30
  clear A30
  by_cases c4:t139=true
  · subst c4
    have H1:((impl_DomainOk.f k a1).bind fun t140=>(if t140=true then (if a0.toList=a1.toList then (some true) else (if 1+a1.size≤9223372036854775807 then ((strings_HasSuffix.f a0 ((⟨#[46]⟩:ByteArray)++a1)).bind fun t141=>(some t141)) else (none))) else (some false)))=some r:=by rw [if_pos rfl] at H;exact H
    clear H
    have H:=H1
    clear H1
    replace H:=Option.bind_eq_some_iff.mp H
    obtain ⟨t140,A50,H⟩:=H
    replace H:(if t140=true then (if a0.toList=a1.toList then (some true) else (if 1+a1.size≤9223372036854775807 then ((strings_HasSuffix.f a0 ((⟨#[46]⟩:ByteArray)++a1)).bind fun t141=>(some t141)) else (none))) else (some false))=some r:=H
    have A5:=Aside0.mk A50
    clear A50
    by_cases c6:t140=true
    · subst c6
      have H1:(if a0.toList=a1.toList then (some true) else (if 1+a1.size≤9223372036854775807 then ((strings_HasSuffix.f a0 ((⟨#[46]⟩:ByteArray)++a1)).bind fun t141=>(some t141)) else (none)))=some r:=by rw [if_pos rfl] at H;exact H
      clear H
      have H:=H1
      clear H1
      by_cases c7:a0.toList=a1.toList
      · rw [if_pos c7] at H
        have c7b0:(a0.toList==a1.toList)=true:=beq_iff_eq.mpr c7
        have c7b1:(a0.toList != a1.toList)=false:=bne_eq_false_iff_eq.mpr c7
        clear c7
        obtain rfl:=Option.some.inj H
        go_enter Tryd.func109,Tryd.ntmps109
        go_wp2_with (first|((with_reducible refine gate_callee (f:=63) rfl ?_);refine goesL_ (some 6) rfl rfl Tryd.func63 (by kernel_rfl) rfl #[.string a0] rfl (by (try simp only [List.map_toArray,List.map_cons,List.map_nil]);first|done|rfl|(simp only [List.length_drop,List.length_take];rfl)) ?_;(with_reducible refine (impl_DomainOk.calls k a0 true _ ?side1 A3.out).mono ?_);(case side1=>first|(with_reducible exact HG.out)|((with_reducible repeat (first|exact HG.out|apply GOK.drewN|apply GOK.drew));done)|exact GOK.below HG.out (by repeat (first|(with_reducible first|exact HB.out|apply below_alloc|apply pw_below_drewN|apply below_drew1)|exact HB.out)));rintro e w8 ⟨rfl,hb⟩;refine ⟨_,rfl,?_⟩;have n0_:=Aside0.mk (below_step (by repeat (first|(with_reducible first|exact HB.out|apply below_alloc|apply pw_below_drewN|apply below_drew1)|exact HB.out)) hb);clear HB;have HB:=n0_;clear n0_;(try clear hb);(try clear hb2);(try clear hk);(try clear hi))|(go_at_call 63;(with_reducible refine (impl_DomainOk.calls k a1 true _ ?side1 A5.out).mono ?_);(case side1=>first|(with_reducible exact HG.out)|((with_reducible repeat (first|exact HG.out|apply GOK.drewN|apply GOK.drew));done)|exact GOK.below HG.out (by repeat (first|(with_reducible first|exact HB.out|apply below_alloc|apply pw_below_drewN|apply below_drew1)|exact HB.out)));rintro e w9 ⟨rfl,hb⟩;have n0_:=Aside0.mk (below_step (by repeat (first|(with_reducible first|exact HB.out|apply below_alloc|apply pw_below_drewN|apply below_drew1)|exact HB.out)) hb);clear HB;have HB:=n0_;clear n0_;(try clear hb);(try clear hb2);(try clear hk);(try clear hi)))
        go_ret
        exact ⟨by first|rfl|(simp [errW_none,errW_some]<;>rfl)|(simp [*,errW_none,errW_some]<;>rfl),by repeat (first|(with_reducible first|exact HB.out|apply below_alloc|apply pw_below_drewN|apply below_drew1)|exact HB.out)⟩
      · rw [if_neg c7] at H
        have c7b0:(a0.toList==a1.toList)=false:=beq_eq_false_iff_ne.mpr c7
        have c7b1:(a0.toList != a1.toList)=true:=bne_iff_ne.mpr c7
        by_cases c10:1+a1.size≤9223372036854775807
        · rw [if_pos c10] at H
          have c10b0:=eq_true c10
          have c10b1:decide (1+a1.size≤9223372036854775807)=true:=decide_eq_true c10
          try have c10b2:(9223372036854775807 < 1+a1.size)=False:=eq_false (Nat.not_lt.2 c10)
          replace H:=Option.bind_eq_some_iff.mp H
          obtain ⟨t141,A110,H⟩:=H
          replace H:(some t141)=some r:=H
          have A11:=Aside0.mk A110
          clear A110
          obtain rfl:=Option.some.inj H
          go_enter Tryd.func109,Tryd.ntmps109
          go_wp2_with (first|((with_reducible refine gate_callee (f:=63) rfl ?_);refine goesL_ (some 6) rfl rfl Tryd.func63 (by kernel_rfl) rfl #[.string a0] rfl (by (try simp only [List.map_toArray,List.map_cons,List.map_nil]);first|done|rfl|(simp only [List.length_drop,List.length_take];rfl)) ?_;(with_reducible refine (impl_DomainOk.calls k a0 true _ ?side1 A3.out).mono ?_);(case side1=>first|(with_reducible exact HG.out)|((with_reducible repeat (first|exact HG.out|apply GOK.drewN|apply GOK.drew));done)|exact GOK.below HG.out (by repeat (first|(with_reducible first|exact HB.out|apply below_alloc|apply pw_below_drewN|apply below_drew1)|exact HB.out)));rintro e w12 ⟨rfl,hb⟩;refine ⟨_,rfl,?_⟩;have n0_:=Aside0.mk (below_step (by repeat (first|(with_reducible first|exact HB.out|apply below_alloc|apply pw_below_drewN|apply below_drew1)|exact HB.out)) hb);clear HB;have HB:=n0_;clear n0_;(try clear hb);(try clear hb2);(try clear hk);(try clear hi))|(go_at_call 63;(with_reducible refine (impl_DomainOk.calls k a1 true _ ?side1 A5.out).mono ?_);(case side1=>first|(with_reducible exact HG.out)|((with_reducible repeat (first|exact HG.out|apply GOK.drewN|apply GOK.drew));done)|exact GOK.below HG.out (by repeat (first|(with_reducible first|exact HB.out|apply below_alloc|apply pw_below_drewN|apply below_drew1)|exact HB.out)));rintro e w13 ⟨rfl,hb⟩;have n0_:=Aside0.mk (below_step (by repeat (first|(with_reducible first|exact HB.out|apply below_alloc|apply pw_below_drewN|apply below_drew1)|exact HB.out)) hb);clear HB;have HB:=n0_;clear n0_;(try clear hb);(try clear hb2);(try clear hk);(try clear hi))|(go_at_call 136;(with_reducible refine (strings_HasSuffix.calls a0 ((⟨#[46]⟩:ByteArray)++a1) t141 _ A11.out).mono ?_);rintro e w' ⟨rfl,⟨nd,rfl⟩⟩))
          go_ret
          exact ⟨by first|rfl|(simp [errW_none,errW_some]<;>rfl)|(simp [*,errW_none,errW_some]<;>rfl),by repeat (first|(with_reducible first|exact HB.out|apply below_alloc|apply pw_below_drewN|apply below_drew1)|exact HB.out)⟩
        · rw [if_neg c10] at H
          exact absurd H (by simp)
    · replace c6:=Bool.eq_false_iff.mpr c6
      subst c6
      have H1:(some false)=some r:=by rw [if_neg (show ¬ (false=true) by decide)] at H;exact H
      clear H
      have H:=H1
      clear H1
      obtain rfl:=Option.some.inj H
      go_enter Tryd.func109,Tryd.ntmps109
      go_wp2_with (first|((with_reducible refine gate_callee (f:=63) rfl ?_);refine goesL_ (some 6) rfl rfl Tryd.func63 (by kernel_rfl) rfl #[.string a0] rfl (by (try simp only [List.map_toArray,List.map_cons,List.map_nil]);first|done|rfl|(simp only [List.length_drop,List.length_take];rfl)) ?_;(with_reducible refine (impl_DomainOk.calls k a0 true _ ?side1 A3.out).mono ?_);(case side1=>first|(with_reducible exact HG.out)|((with_reducible repeat (first|exact HG.out|apply GOK.drewN|apply GOK.drew));done)|exact GOK.below HG.out (by repeat (first|(with_reducible first|exact HB.out|apply below_alloc|apply pw_below_drewN|apply below_drew1)|exact HB.out)));rintro e w14 ⟨rfl,hb⟩;refine ⟨_,rfl,?_⟩;have n0_:=Aside0.mk (below_step (by repeat (first|(with_reducible first|exact HB.out|apply below_alloc|apply pw_below_drewN|apply below_drew1)|exact HB.out)) hb);clear HB;have HB:=n0_;clear n0_;(try clear hb);(try clear hb2);(try clear hk);(try clear hi))|(go_at_call 63;(with_reducible refine (impl_DomainOk.calls k a1 false _ ?side1 A5.out).mono ?_);(case side1=>first|(with_reducible exact HG.out)|((with_reducible repeat (first|exact HG.out|apply GOK.drewN|apply GOK.drew));done)|exact GOK.below HG.out (by repeat (first|(with_reducible first|exact HB.out|apply below_alloc|apply pw_below_drewN|apply below_drew1)|exact HB.out)));rintro e w15 ⟨rfl,hb⟩;have n0_:=Aside0.mk (below_step (by repeat (first|(with_reducible first|exact HB.out|apply below_alloc|apply pw_below_drewN|apply below_drew1)|exact HB.out)) hb);clear HB;have HB:=n0_;clear n0_;(try clear hb);(try clear hb2);(try clear hk);(try clear hi)))
      go_ret
      exact ⟨by first|rfl|(simp [errW_none,errW_some]<;>rfl)|(simp [*,errW_none,errW_some]<;>rfl),by repeat (first|(with_reducible first|exact HB.out|apply below_alloc|apply pw_below_drewN|apply below_drew1)|exact HB.out)⟩
  · replace c4:=Bool.eq_false_iff.mpr c4
    subst c4
    have H1:(some false)=some r:=by rw [if_neg (show ¬ (false=true) by decide)] at H;exact H
    clear H
    have H:=H1
    clear H1
    obtain rfl:=Option.some.inj H
    go_enter Tryd.func109,Tryd.ntmps109
    go_wp2_with (first|((with_reducible refine gate_callee (f:=63) rfl ?_);refine goesL_ (some 6) rfl rfl Tryd.func63 (by kernel_rfl) rfl #[.string a0] rfl (by (try simp only [List.map_toArray,List.map_cons,List.map_nil]);first|done|rfl|(simp only [List.length_drop,List.length_take];rfl)) ?_;(with_reducible refine (impl_DomainOk.calls k a0 false _ ?side1 A3.out).mono ?_);(case side1=>first|(with_reducible exact HG.out)|((with_reducible repeat (first|exact HG.out|apply GOK.drewN|apply GOK.drew));done)|exact GOK.below HG.out (by repeat (first|(with_reducible first|exact HB.out|apply below_alloc|apply pw_below_drewN|apply below_drew1)|exact HB.out)));rintro e w16 ⟨rfl,hb⟩;refine ⟨_,rfl,?_⟩;have n0_:=Aside0.mk (below_step (by repeat (first|(with_reducible first|exact HB.out|apply below_alloc|apply pw_below_drewN|apply below_drew1)|exact HB.out)) hb);clear HB;have HB:=n0_;clear n0_;(try clear hb);(try clear hb2);(try clear hk);(try clear hi)))
    go_ret
    exact ⟨by first|rfl|(simp [errW_none,errW_some]<;>rfl)|(simp [*,errW_none,errW_some]<;>rfl),by repeat (first|(with_reducible first|exact HB.out|apply below_alloc|apply pw_below_drewN|apply below_drew1)|exact HB.out)⟩
def impl_Conf_way.l0:Nat→ByteArray→List (S117)→Int→Int→ByteArray→ByteArray→Option (ByteArray)
  | 0,_,_,_,_,_,_=>none
  | k+1,x1,x13,x14,x15,x145000,x145001=>if x15 < x14 then (if 0≤x15 then (if x15 < (x13.length:Int) then ((impl_DomainIn.f k x1 ((rd_T117 x13 x15).f0)).bind fun t147=>(if t147=true then (if (((rd_T117 x13 x15).f0).size:Int) > (x145000.size:Int) then (impl_Conf_way.l0 k x1 x13 x14 (wrap64 (x15+1)) ((rd_T117 x13 x15).f0) ((rd_T117 x13 x15).f1)) else (impl_Conf_way.l0 k x1 x13 x14 (wrap64 (x15+1)) x145000 x145001)) else (impl_Conf_way.l0 k x1 x13 x14 (wrap64 (x15+1)) x145000 x145001))) else (none)) else (none)) else (some x145001)
def impl_Conf_way.f (k:Nat) (a0_0:ByteArray) (l0_1:List ByteArray) (l0_2:List (S117)) (a1:ByteArray):Option (ByteArray):=(impl_Conf_local.f k a0_0 l0_1 l0_2 a1).bind fun t143=>(if t143=true then (some (⟨#[]⟩:ByteArray)) else (impl_Conf_way.l0 k a1 l0_2 (l0_2.length:Int) 0 (⟨#[]⟩:ByteArray) (⟨#[]⟩:ByteArray)))
set_option maxHeartbeats 8000000 in
set_option maxRecDepth 100000 in
theorem impl_Conf_way.calls (k:Nat) (a0_0:ByteArray) (A0_1:Option Addr) (c0_1:Nat) (l0_1:List ByteArray) (A0_2:Option Addr) (c0_2:Nat) (l0_2:List (S117)) (a1:ByteArray) (r:ByteArray) (w:World) (hr0_1:Kd.C Kd.string w A0_1 l0_1.length l0_1) (hc0_1:l0_1.length≤c0_1) (hr0_2:Kd.C k117 w A0_2 l0_2.length l0_2) (hc0_2:l0_2.length≤c0_2) (hG:GOK w) (h:impl_Conf_way.f k a0_0 l0_1 l0_2 a1=some r) :
    Calls Tryd.prog 64 #[.agg #[.string a0_0,.slice A0_1 l0_1.length c0_1,.slice A0_2 l0_2.length c0_2],.string a1] w fun e w'=>e=.returned (.string r)∧Below w.heap.size w w':=by
  have hu44:=Tryd.underlying44
  have hu117:=Tryd.underlying117
  have HR0_1:=Aside0.mk hr0_1
  have HC0_1:=Aside0.mk hc0_1
  clear hr0_1 hc0_1
  have HR0_2:=Aside0.mk hr0_2
  have HC0_2:=Aside0.mk hc0_2
  clear hr0_2 hc0_2
  have HG:=Aside0.mk hG
  clear hG
  have HB:=Aside0.mk (Below.refl w.heap.size w)
  have H:((impl_Conf_local.f k a0_0 l0_1 l0_2 a1).bind fun t143=>(if t143=true then (some (⟨#[]⟩:ByteArray)) else (impl_Conf_way.l0 k a1 l0_2 (l0_2.length:Int) 0 (⟨#[]⟩:ByteArray) (⟨#[]⟩:ByteArray))))=some r:=h
  clear h
  replace H:=Option.bind_eq_some_iff.mp H
  obtain ⟨t143,A30,H⟩:=H
  replace H:(if t143=true then (some (⟨#[]⟩:ByteArray)) else (impl_Conf_way.l0 k a1 l0_2 (l0_2.length:Int) 0 (⟨#[]⟩:ByteArray) (⟨#[]⟩:ByteArray)))=some r:=H
  have A3:=Aside0.mk A30
  clear A30
  by_cases c4:t143=true
  · subst c4
    have H1:(some (⟨#[]⟩:ByteArray))=some r:=by rw [if_pos rfl] at H;exact H
    clear H
    have H:=H1
    clear H1
    obtain rfl:=Option.some.inj H
    go_enter Tryd.func64,Tryd.ntmps64
    go_wp2_with (first|((with_reducible refine gate_dst (N:=2) rfl ?_);(try (refine gate_guard (by rfl) ?_;dsimp only));refine box_event ?hg (N:=2) ?hd (cs:=#[.string a0_0,.slice A0_1 l0_1.length c0_1,.slice A0_2 l0_2.length c0_2]) (t:=44) ?hr ?_;(case hd=>rfl);(case hg=>rfl);(case hr=>first|(go_simp;done)|(go_simp;rfl));intro gb142 hg w5 hbox hb;have n0_:=Aside0.mk (below_step (by repeat (first|(with_reducible first|exact HB.out|apply below_alloc|apply pw_below_drewN|apply below_drew1)|exact HB.out)) hb);have n1_:=Aside0.mk (hbox);have n2_:=Aside0.mk ((by rw [hg];exact (below_size (by repeat (first|(with_reducible first|exact HB.out|apply below_alloc|apply pw_below_drewN|apply below_drew1)|exact HB.out))):w.heap.size≤gb142));have n3_:=Aside0.mk ((by rw [hg];exact (below_size (by repeat (first|(with_reducible first|exact HB.out|apply below_alloc|apply pw_below_drewN|apply below_drew1)|exact HB.out))):w.heap.size≤gb142));clear HB;have HB:=n0_;have BK142:=n1_;have GW142:=n2_;have GE142:=n3_;clear n0_ n1_ n2_ n3_;clear hb hbox hg;have hcz6_0:w5.cell? ⟨gb142,0,none⟩=some (.string a0_0):=(blk_cell BK142.out 0).trans rfl;have hcz6_1:w5.cell? ⟨gb142,1,none⟩=some (.slice A0_1 l0_1.length c0_1):=(blk_cell BK142.out 1).trans rfl;have hcz6_2:w5.cell? ⟨gb142,2,none⟩=some (.slice A0_2 l0_2.length c0_2):=(blk_cell BK142.out 2).trans rfl;have hfz6_0:=blk_frozen BK142.out 0;have hfz6_1:=blk_frozen BK142.out 1;have hfz6_2:=blk_frozen BK142.out 2)|((with_reducible refine gate_callee (f:=108) rfl ?_);refine goesL_ (some 10) rfl rfl Tryd.func108 (by kernel_rfl) rfl #[.agg #[.string a0_0,.slice A0_1 l0_1.length c0_1,.slice A0_2 l0_2.length c0_2],.string a1] rfl (by (try simp only [List.map_toArray,List.map_cons,List.map_nil]);first|done|rfl|(simp only [List.length_drop,List.length_take];rfl)) ?_;(with_reducible refine (impl_Conf_local.calls k a0_0 _ _ l0_1 _ _ l0_2 a1 true _ ?side1 ?side2 ?side3 ?side4 A3.out).mono ?_);(case side1=>repeat (first|exact (Kd.C_below HR0_1.out HB.out)|(with_reducible refine Kd.C_alloc ?_ _)|(with_reducible refine Kd.C_drewN ?_ _)|(with_reducible refine Kd.C_drew ?_)));(case side2=>exact HC0_1.out);(case side3=>repeat (first|exact (Kd.C_below HR0_2.out HB.out)|(with_reducible refine Kd.C_alloc ?_ _)|(with_reducible refine Kd.C_drewN ?_ _)|(with_reducible refine Kd.C_drew ?_)));(case side4=>exact HC0_2.out);rintro e w7 ⟨rfl,hb⟩;refine ⟨_,rfl,?_⟩;have n0_:=Aside0.mk (blk_below (g:=gb142) (o:=.cells #[.string a0_0,.slice A0_1 l0_1.length c0_1,.slice A0_2 l0_2.length c0_2] 44 (0,0)) (by (with_reducible repeat (first|refine blk_drewN ?_ _|refine blk_drew ?_|refine blk_alloc ?_ _));exact BK142.out) hb);have n1_:=Aside0.mk (below_step (by repeat (first|(with_reducible first|exact HB.out|apply below_alloc|apply pw_below_drewN|apply below_drew1|refine below_set ?_ GE142.out)|exact HB.out)) hb);clear BK142;clear HB;have BK142:=n0_;have HB:=n1_;clear n0_ n1_;(try clear hb);(try clear hb2);(try clear hk);(try clear hi)))
    go_ret
    exact ⟨by first|rfl|(simp [errW_none,errW_some]<;>rfl)|(simp [*,errW_none,errW_some]<;>rfl),by repeat (first|(with_reducible first|exact HB.out|apply below_alloc|apply pw_below_drewN|apply below_drew1|refine below_set ?_ GE142.out)|exact HB.out)⟩
  · replace c4:=Bool.eq_false_iff.mpr c4
    subst c4
    have H1:(impl_Conf_way.l0 k a1 l0_2 (l0_2.length:Int) 0 (⟨#[]⟩:ByteArray) (⟨#[]⟩:ByteArray))=some r:=by rw [if_neg (show ¬ (false=true) by decide)] at H;exact H
    clear H
    have H:=H1
    clear H1
    have H':=Aside0.mk H
    clear H
    go_enter Tryd.func64,Tryd.ntmps64
    go_wp2_with (first|((with_reducible refine gate_dst (N:=2) rfl ?_);(try (refine gate_guard (by rfl) ?_;dsimp only));refine box_event ?hg (N:=2) ?hd (cs:=#[.string a0_0,.slice A0_1 l0_1.length c0_1,.slice A0_2 l0_2.length c0_2]) (t:=44) ?hr ?_;(case hd=>rfl);(case hg=>rfl);(case hr=>first|(go_simp;done)|(go_simp;rfl));intro gb142 hg w8 hbox hb;have n0_:=Aside0.mk (below_step (by repeat (first|(with_reducible first|exact HB.out|apply below_alloc|apply pw_below_drewN|apply below_drew1)|exact HB.out)) hb);have n1_:=Aside0.mk (hbox);have n2_:=Aside0.mk ((by rw [hg];exact (below_size (by repeat (first|(with_reducible first|exact HB.out|apply below_alloc|apply pw_below_drewN|apply below_drew1)|exact HB.out))):w.heap.size≤gb142));have n3_:=Aside0.mk ((by rw [hg];exact (below_size (by repeat (first|(with_reducible first|exact HB.out|apply below_alloc|apply pw_below_drewN|apply below_drew1)|exact HB.out))):w.heap.size≤gb142));clear HB;have HB:=n0_;have BK142:=n1_;have GW142:=n2_;have GE142:=n3_;clear n0_ n1_ n2_ n3_;clear hb hbox hg;have hcz9_0:w8.cell? ⟨gb142,0,none⟩=some (.string a0_0):=(blk_cell BK142.out 0).trans rfl;have hcz9_1:w8.cell? ⟨gb142,1,none⟩=some (.slice A0_1 l0_1.length c0_1):=(blk_cell BK142.out 1).trans rfl;have hcz9_2:w8.cell? ⟨gb142,2,none⟩=some (.slice A0_2 l0_2.length c0_2):=(blk_cell BK142.out 2).trans rfl;have hfz9_0:=blk_frozen BK142.out 0;have hfz9_1:=blk_frozen BK142.out 1;have hfz9_2:=blk_frozen BK142.out 2)|((with_reducible refine gate_callee (f:=108) rfl ?_);refine goesL_ (some 10) rfl rfl Tryd.func108 (by kernel_rfl) rfl #[.agg #[.string a0_0,.slice A0_1 l0_1.length c0_1,.slice A0_2 l0_2.length c0_2],.string a1] rfl (by (try simp only [List.map_toArray,List.map_cons,List.map_nil]);first|done|rfl|(simp only [List.length_drop,List.length_take];rfl)) ?_;(with_reducible refine (impl_Conf_local.calls k a0_0 _ _ l0_1 _ _ l0_2 a1 false _ ?side1 ?side2 ?side3 ?side4 A3.out).mono ?_);(case side1=>repeat (first|exact (Kd.C_below HR0_1.out HB.out)|(with_reducible refine Kd.C_alloc ?_ _)|(with_reducible refine Kd.C_drewN ?_ _)|(with_reducible refine Kd.C_drew ?_)));(case side2=>exact HC0_1.out);(case side3=>repeat (first|exact (Kd.C_below HR0_2.out HB.out)|(with_reducible refine Kd.C_alloc ?_ _)|(with_reducible refine Kd.C_drewN ?_ _)|(with_reducible refine Kd.C_drew ?_)));(case side4=>exact HC0_2.out);rintro e w10 ⟨rfl,hb⟩;refine ⟨_,rfl,?_⟩;have n0_:=Aside0.mk (blk_below (g:=gb142) (o:=.cells #[.string a0_0,.slice A0_1 l0_1.length c0_1,.slice A0_2 l0_2.length c0_2] 44 (0,0)) (by (with_reducible repeat (first|refine blk_drewN ?_ _|refine blk_drew ?_|refine blk_alloc ?_ _));exact BK142.out) hb);have n1_:=Aside0.mk (below_step (by repeat (first|(with_reducible first|exact HB.out|apply below_alloc|apply pw_below_drewN|apply below_drew1|refine below_set ?_ GE142.out)|exact HB.out)) hb);clear BK142;clear HB;have BK142:=n0_;have HB:=n1_;clear n0_ n1_;(try clear hb);(try clear hb2);(try clear hk);(try clear hi))|((with_reducible refine gate_dst (N:=5) rfl ?_);(try (refine gate_guard (by rfl) ?_;dsimp only));refine box_event ?hg (N:=5) ?hd (cs:=#[.string (⟨#[]⟩:ByteArray),.string (⟨#[]⟩:ByteArray)]) (t:=117) ?hr ?_;(case hd=>rfl);(case hg=>rfl);(case hr=>first|(go_simp;done)|(go_simp;rfl));intro gb144 hg w11 hbox hb;have n0_:=Aside0.mk (blk_below (g:=gb142) (o:=.cells #[.string a0_0,.slice A0_1 l0_1.length c0_1,.slice A0_2 l0_2.length c0_2] 44 (0,0)) (by (with_reducible repeat (first|refine blk_drewN ?_ _|refine blk_drew ?_|refine blk_alloc ?_ _));exact BK142.out) hb);have n1_:=Aside0.mk (below_step (by repeat (first|(with_reducible first|exact HB.out|apply below_alloc|apply pw_below_drewN|apply below_drew1|refine below_set ?_ GE142.out)|exact HB.out)) hb);have n2_:=Aside0.mk (hbox);have n3_:=Aside0.mk ((by rw [hg];exact (below_size (by repeat (first|(with_reducible first|exact HB.out|apply below_alloc|apply pw_below_drewN|apply below_drew1|refine below_set ?_ GE142.out)|exact HB.out))):w.heap.size≤gb144));have n4_:=Aside0.mk ((by rw [hg];exact (below_size (by repeat (first|(with_reducible first|exact HB.out|apply below_alloc|apply pw_below_drewN|apply below_drew1|refine below_set ?_ GE142.out)|exact HB.out))):w.heap.size≤gb144));have n5_:=Aside0.mk ((by rw [hg];exact Nat.ne_of_lt (blk_lt (g:=gb142) (o:=.cells #[.string a0_0,.slice A0_1 l0_1.length c0_1,.slice A0_2 l0_2.length c0_2] 44 (0,0)) (by (with_reducible repeat (first|refine blk_drewN ?_ _|refine blk_drew ?_|refine blk_alloc ?_ _));exact BK142.out)):gb142≠gb144));have n6_:=Aside0.mk ((by rw [hg];exact Nat.ne_of_gt (blk_lt (g:=gb142) (o:=.cells #[.string a0_0,.slice A0_1 l0_1.length c0_1,.slice A0_2 l0_2.length c0_2] 44 (0,0)) (by (with_reducible repeat (first|refine blk_drewN ?_ _|refine blk_drew ?_|refine blk_alloc ?_ _));exact BK142.out)):gb144≠gb142));clear BK142;clear HB;have BK142:=n0_;have HB:=n1_;have BK144:=n2_;have GW144:=n3_;have GE144:=n4_;have NB142_144:=n5_;have NB144_142:=n6_;clear n0_ n1_ n2_ n3_ n4_ n5_ n6_;clear hb hbox hg;have hnb12:=NB144_142.out;have hnc12:=NB142_144.out;have hcz13_0:w11.cell? ⟨gb144,0,none⟩=some (.string (⟨#[]⟩:ByteArray)):=(blk_cell BK144.out 0).trans rfl;have hcz13_1:w11.cell? ⟨gb144,1,none⟩=some (.string (⟨#[]⟩:ByteArray)):=(blk_cell BK144.out 1).trans rfl;have hfz13_0:=blk_frozen BK144.out 0;have hfz13_1:=blk_frozen BK144.out 1;have hcz14_0:w11.cell? ⟨gb142,0,none⟩=some (.string a0_0):=(blk_cell BK142.out 0).trans rfl;have hcz14_1:w11.cell? ⟨gb142,1,none⟩=some (.slice A0_1 l0_1.length c0_1):=(blk_cell BK142.out 1).trans rfl;have hcz14_2:w11.cell? ⟨gb142,2,none⟩=some (.slice A0_2 l0_2.length c0_2):=(blk_cell BK142.out 2).trans rfl;have hfz14_0:=blk_frozen BK142.out 0;have hfz14_1:=blk_frozen BK142.out 1;have hfz14_2:=blk_frozen BK142.out 2))
    go_loopg [15] k (fun kq v15 w'=>∃ (x15_1:Int) (x145000_1:ByteArray) (x145001_1:ByteArray),v15=.int .i64 x15_1∧Aside0 (impl_Conf_way.l0 kq a1 l0_2 (l0_2.length:Int) x15_1 x145000_1 x145001_1=some r)∧Aside0 (kq≤k)∧Aside0 (w'.heap[gb142]?=some (.cells #[.string a0_0,(.slice A0_1 l0_1.length c0_1),(.slice A0_2 l0_2.length c0_2)] 44 (0,0)))∧Aside0 (w'.heap[gb144]?=some (.cells #[.string x145000_1,.string x145001_1] 117 (0,0)))∧Aside0 (Below w.heap.size w w'))
    case atStart=>exact ⟨(0),((⟨#[]⟩:ByteArray)),((⟨#[]⟩:ByteArray)),(by first|rfl|(simp;done)|(simp [*];done)),H',⟨Nat.le_refl _⟩,⟨by (with_reducible repeat (first|refine blk_drewN ?_ _|refine blk_drew ?_|refine blk_alloc ?_ _));refine blk_far ?_ NB142_144.out _;(with_reducible repeat (first|refine blk_drewN ?_ _|refine blk_drew ?_|refine blk_alloc ?_ _));refine blk_far ?_ NB142_144.out _;(with_reducible repeat (first|refine blk_drewN ?_ _|refine blk_drew ?_|refine blk_alloc ?_ _));exact BK142.out⟩,⟨by (with_reducible repeat (first|refine blk_drewN ?_ _|refine blk_drew ?_|refine blk_alloc ?_ _));refine blk_put (cs:=#[.string (⟨#[]⟩:ByteArray),.string (⟨#[]⟩:ByteArray)]) ?_ 1 _ rfl;(with_reducible repeat (first|refine blk_drewN ?_ _|refine blk_drew ?_|refine blk_alloc ?_ _));refine blk_put (cs:=#[.string (⟨#[]⟩:ByteArray),.string (⟨#[]⟩:ByteArray)]) ?_ 0 _ rfl;(with_reducible repeat (first|refine blk_drewN ?_ _|refine blk_drew ?_|refine blk_alloc ?_ _));exact BK144.out⟩,⟨by repeat (first|(with_reducible first|exact HB.out|apply below_alloc|apply pw_below_drewN|apply below_drew1|refine below_set ?_ GE142.out|refine below_set ?_ GE144.out)|exact HB.out)⟩⟩
    case round =>
      clear H'
      try clear c1
      try clear p2
      try clear c4
      try clear c6
      try clear c10
      try clear c12
      try clear hcz13_0
      try clear hcz13_1
      try clear hcz14_0
      try clear hcz14_1
      try clear hcz14_2
      try clear hcz6_0
      try clear hcz6_1
      try clear hcz6_2
      try clear hcz9_0
      try clear hcz9_1
      try clear hcz9_2
      try clear hfz13_0
      try clear hfz13_1
      try clear hfz14_0
      try clear hfz14_1
      try clear hfz14_2
      try clear hfz6_0
      try clear hfz6_1
      try clear hfz6_2
      try clear hfz9_0
      try clear hfz9_1
      try clear hfz9_2
      obtain ⟨x15_1,x145000_1,x145001_1,rfl,HA,HK1,BK142,BK144,HB⟩:=hrel
      cases gk with
      | zero=>exact absurd HA.out (by simp [impl_Conf_way.l0])
      | succ k1 =>
        have H:=HA.out
        clear HA
        simp only [impl_Conf_way.l0] at H
        by_cases c15:x15_1 < (l0_2.length:Int)
        · rw [if_pos c15] at H
          have c15b0:decide (x15_1 < (l0_2.length:Int))=true:=decide_eq_true c15
          clear c15
          by_cases c16:0≤x15_1
          · rw [if_pos c16] at H
            have c16b0:decide (0≤x15_1)=true:=decide_eq_true c16
            clear c16
            by_cases c17:x15_1 < (l0_2.length:Int)
            · rw [if_pos c17] at H
              have c17b0:decide (x15_1 < (l0_2.length:Int))=true:=decide_eq_true c17
              clear c17
              replace H:=Option.bind_eq_some_iff.mp H
              obtain ⟨t147,A180,H⟩:=H
              replace H:(if t147=true then (if (((rd_T117 l0_2 x15_1).f0).size:Int) > (x145000_1.size:Int) then (impl_Conf_way.l0 k1 a1 l0_2 (l0_2.length:Int) (wrap64 (x15_1+1)) ((rd_T117 l0_2 x15_1).f0) ((rd_T117 l0_2 x15_1).f1)) else (impl_Conf_way.l0 k1 a1 l0_2 (l0_2.length:Int) (wrap64 (x15_1+1)) x145000_1 x145001_1)) else (impl_Conf_way.l0 k1 a1 l0_2 (l0_2.length:Int) (wrap64 (x15_1+1)) x145000_1 x145001_1))=some r:=H
              have A18:=Aside0.mk A180
              clear A180
              by_cases c19:t147=true
              · subst c19
                have H1:(if (((rd_T117 l0_2 x15_1).f0).size:Int) > (x145000_1.size:Int) then (impl_Conf_way.l0 k1 a1 l0_2 (l0_2.length:Int) (wrap64 (x15_1+1)) ((rd_T117 l0_2 x15_1).f0) ((rd_T117 l0_2 x15_1).f1)) else (impl_Conf_way.l0 k1 a1 l0_2 (l0_2.length:Int) (wrap64 (x15_1+1)) x145000_1 x145001_1))=some r:=by rw [if_pos rfl] at H;exact H
                clear H
                have H:=H1
                clear H1
                by_cases c20:(((rd_T117 l0_2 x15_1).f0).size:Int) > (x145000_1.size:Int)
                · rw [if_pos c20] at H
                  have c20b0:decide ((x145000_1.size:Int) < (((rd_T117 l0_2 x15_1).f0).size:Int))=true:=decide_eq_true c20
                  have c20b1:decide (x145000_1.size < ((rd_T117 l0_2 x15_1).f0).size)=true:=decide_eq_true (Int.ofNat_lt.mp c20)
                  clear c20
                  have H':=Aside0.mk H
                  clear H
                  have p145:0≤(x15_1:Int):=of_decide_eq_true (by first|(with_reducible assumption)|assumption)
                  have q145:x15_1 < (l0_2.length:Int):=of_decide_eq_true (by first|(with_reducible assumption)|assumption)
                  obtain ⟨ad145,e145,hx145_0,hx145_1⟩:=at_T117 HR0_2.out x15_1 p145 q145
                  cases e145
                  replace hx145_0:=(HB.out.cell (World.block_lt_of_cell? w _ hx145_0)).trans hx145_0
                  replace hx145_1:=(HB.out.cell (World.block_lt_of_cell? w _ hx145_1)).trans hx145_1
                  replace p145:=eq_true p145
                  replace q145:=eq_true q145
                  go_wp2_with (first|((with_reducible refine gate_dst (N:=7) rfl ?_);(try (refine gate_guard (by rfl) ?_;dsimp only));refine box_event ?hg (N:=7) ?hd (cs:=#[.string (⟨#[]⟩:ByteArray),.string (⟨#[]⟩:ByteArray)]) (t:=117) ?hr ?_;(case hd=>rfl);(case hg=>rfl);(case hr=>first|(go_simp;done)|(go_simp;rfl));intro gb146 hg w21 hbox hb;have n0_:=Aside0.mk (blk_below (g:=gb142) (o:=.cells #[.string a0_0,.slice A0_1 l0_1.length c0_1,.slice (some ad145) l0_2.length c0_2] 44 (0,0)) (by (with_reducible repeat (first|refine blk_drewN ?_ _|refine blk_drew ?_|refine blk_alloc ?_ _));exact BK142.out) hb);have n1_:=Aside0.mk (blk_below (g:=gb144) (o:=.cells #[.string x145000_1,.string x145001_1] 117 (0,0)) (by (with_reducible repeat (first|refine blk_drewN ?_ _|refine blk_drew ?_|refine blk_alloc ?_ _));exact BK144.out) hb);have n2_:=Aside0.mk (below_step (by repeat (first|(with_reducible first|exact HB.out|apply below_alloc|apply pw_below_drewN|apply below_drew1|refine below_set ?_ GE142.out|refine below_set ?_ GE144.out)|exact HB.out)) hb);have n3_:=Aside0.mk (hbox);have n4_:=Aside0.mk ((by rw [hg];exact (below_size (by repeat (first|(with_reducible first|exact HB.out|apply below_alloc|apply pw_below_drewN|apply below_drew1|refine below_set ?_ GE142.out|refine below_set ?_ GE144.out)|exact HB.out))):w.heap.size≤gb146));have n5_:=Aside0.mk ((by rw [hg];exact (below_size (by repeat (first|(with_reducible first|exact HB.out|apply below_alloc|apply pw_below_drewN|apply below_drew1|refine below_set ?_ GE142.out|refine below_set ?_ GE144.out)|exact HB.out))):w.heap.size≤gb146));have n6_:=Aside0.mk ((by rw [hg];exact Nat.ne_of_lt (blk_lt (g:=gb142) (o:=.cells #[.string a0_0,.slice A0_1 l0_1.length c0_1,.slice (some ad145) l0_2.length c0_2] 44 (0,0)) (by (with_reducible repeat (first|refine blk_drewN ?_ _|refine blk_drew ?_|refine blk_alloc ?_ _));exact BK142.out)):gb142≠gb146));have n7_:=Aside0.mk ((by rw [hg];exact Nat.ne_of_gt (blk_lt (g:=gb142) (o:=.cells #[.string a0_0,.slice A0_1 l0_1.length c0_1,.slice (some ad145) l0_2.length c0_2] 44 (0,0)) (by (with_reducible repeat (first|refine blk_drewN ?_ _|refine blk_drew ?_|refine blk_alloc ?_ _));exact BK142.out)):gb146≠gb142));have n8_:=Aside0.mk ((by rw [hg];exact Nat.ne_of_lt (blk_lt (g:=gb144) (o:=.cells #[.string x145000_1,.string x145001_1] 117 (0,0)) (by (with_reducible repeat (first|refine blk_drewN ?_ _|refine blk_drew ?_|refine blk_alloc ?_ _));exact BK144.out)):gb144≠gb146));have n9_:=Aside0.mk ((by rw [hg];exact Nat.ne_of_gt (blk_lt (g:=gb144) (o:=.cells #[.string x145000_1,.string x145001_1] 117 (0,0)) (by (with_reducible repeat (first|refine blk_drewN ?_ _|refine blk_drew ?_|refine blk_alloc ?_ _));exact BK144.out)):gb146≠gb144));clear BK142;clear BK144;clear HB;have BK142:=n0_;have BK144:=n1_;have HB:=n2_;have BK146:=n3_;have GW146:=n4_;have GE146:=n5_;have NB142_146:=n6_;have NB146_142:=n7_;have NB144_146:=n8_;have NB146_144:=n9_;clear n0_ n1_ n2_ n3_ n4_ n5_ n6_ n7_ n8_ n9_;clear hb hbox hg;have hnb22:=NB146_142.out;have hnc22:=NB142_146.out;have hnb23:=NB146_144.out;have hnc23:=NB144_146.out;have hcz24_0:w21.cell? ⟨gb146,0,none⟩=some (.string (⟨#[]⟩:ByteArray)):=(blk_cell BK146.out 0).trans rfl;have hcz24_1:w21.cell? ⟨gb146,1,none⟩=some (.string (⟨#[]⟩:ByteArray)):=(blk_cell BK146.out 1).trans rfl;have hfz24_0:=blk_frozen BK146.out 0;have hfz24_1:=blk_frozen BK146.out 1)|((with_reducible refine gate_callee (f:=109) rfl ?_);refine goesL_ (some 22) rfl rfl Tryd.func109 (by kernel_rfl) rfl #[.string a1,.string ((rd_T117 l0_2 x15_1).f0)] rfl (by (try simp only [List.map_toArray,List.map_cons,List.map_nil]);first|done|rfl|(simp only [List.length_drop,List.length_take];rfl)) ?_;(with_reducible refine (impl_DomainIn.calls k1 a1 ((rd_T117 l0_2 x15_1).f0) true _ ?side1 A18.out).mono ?_);(case side1=>first|(with_reducible exact HG.out)|((with_reducible repeat (first|exact HG.out|apply GOK.drewN|apply GOK.drew));done)|exact GOK.below HG.out (by repeat (first|(with_reducible first|exact HB.out|apply below_alloc|apply pw_below_drewN|apply below_drew1|refine below_set ?_ GE142.out|refine below_set ?_ GE144.out|refine below_set ?_ GE146.out)|exact HB.out)));rintro e w25 ⟨rfl,hb⟩;refine ⟨_,rfl,?_⟩;have n0_:=Aside0.mk (blk_below (g:=gb142) (o:=.cells #[.string a0_0,.slice A0_1 l0_1.length c0_1,.slice (some ad145) l0_2.length c0_2] 44 (0,0)) (by (with_reducible repeat (first|refine blk_drewN ?_ _|refine blk_drew ?_|refine blk_alloc ?_ _));refine blk_far ?_ NB142_146.out _;(with_reducible repeat (first|refine blk_drewN ?_ _|refine blk_drew ?_|refine blk_alloc ?_ _));refine blk_far ?_ NB142_146.out _;(with_reducible repeat (first|refine blk_drewN ?_ _|refine blk_drew ?_|refine blk_alloc ?_ _));exact BK142.out) hb);have n1_:=Aside0.mk (blk_below (g:=gb144) (o:=.cells #[.string x145000_1,.string x145001_1] 117 (0,0)) (by (with_reducible repeat (first|refine blk_drewN ?_ _|refine blk_drew ?_|refine blk_alloc ?_ _));refine blk_far ?_ NB144_146.out _;(with_reducible repeat (first|refine blk_drewN ?_ _|refine blk_drew ?_|refine blk_alloc ?_ _));refine blk_far ?_ NB144_146.out _;(with_reducible repeat (first|refine blk_drewN ?_ _|refine blk_drew ?_|refine blk_alloc ?_ _));exact BK144.out) hb);have n2_:=Aside0.mk (blk_below (g:=gb146) (o:=.cells #[.string ((rd_T117 l0_2 x15_1).f0),.string ((rd_T117 l0_2 x15_1).f1)] 117 (0,0)) (by (with_reducible repeat (first|refine blk_drewN ?_ _|refine blk_drew ?_|refine blk_alloc ?_ _));refine blk_put (cs:=#[.string ((rd_T117 l0_2 x15_1).f0),.string (⟨#[]⟩:ByteArray)]) ?_ 1 _ rfl;(with_reducible repeat (first|refine blk_drewN ?_ _|refine blk_drew ?_|refine blk_alloc ?_ _));refine blk_put (cs:=#[.string (⟨#[]⟩:ByteArray),.string (⟨#[]⟩:ByteArray)]) ?_ 0 _ rfl;(with_reducible repeat (first|refine blk_drewN ?_ _|refine blk_drew ?_|refine blk_alloc ?_ _));exact BK146.out) hb);have n3_:=Aside0.mk (below_step (by repeat (first|(with_reducible first|exact HB.out|apply below_alloc|apply pw_below_drewN|apply below_drew1|refine below_set ?_ GE142.out|refine below_set ?_ GE144.out|refine below_set ?_ GE146.out)|exact HB.out)) hb);clear BK142;clear BK144;clear BK146;clear HB;have BK142:=n0_;have BK144:=n1_;have BK146:=n2_;have HB:=n3_;clear n0_ n1_ n2_ n3_;(try clear hb);(try clear hb2);(try clear hk);(try clear hi);have hcz26_0:w25.cell? ⟨gb146,0,none⟩=some (.string ((rd_T117 l0_2 x15_1).f0)):=(blk_cell BK146.out 0).trans rfl;have hcz26_1:w25.cell? ⟨gb146,1,none⟩=some (.string ((rd_T117 l0_2 x15_1).f1)):=(blk_cell BK146.out 1).trans rfl;have hfz26_0:=blk_frozen BK146.out 0;have hfz26_1:=blk_frozen BK146.out 1;have hnb27:=NB144_142.out;have hnc27:=NB142_144.out;have hcz28_0:w25.cell? ⟨gb144,0,none⟩=some (.string x145000_1):=(blk_cell BK144.out 0).trans rfl;have hcz28_1:w25.cell? ⟨gb144,1,none⟩=some (.string x145001_1):=(blk_cell BK144.out 1).trans rfl;have hfz28_0:=blk_frozen BK144.out 0;have hfz28_1:=blk_frozen BK144.out 1))
                  go_roundg k1
                  case measure=>have:=HK1.out;omega
                  case rel=>exact ⟨(wrap64 (x15_1+1)),((rd_T117 l0_2 x15_1).f0),((rd_T117 l0_2 x15_1).f1),(by first|rfl|(simp;done)|(simp [*];done)),H',⟨by have:=HK1.out;omega⟩,⟨by (with_reducible repeat (first|refine blk_drewN ?_ _|refine blk_drew ?_|refine blk_alloc ?_ _));refine blk_far ?_ NB142_144.out _;(with_reducible repeat (first|refine blk_drewN ?_ _|refine blk_drew ?_|refine blk_alloc ?_ _));refine blk_far ?_ NB142_144.out _;(with_reducible repeat (first|refine blk_drewN ?_ _|refine blk_drew ?_|refine blk_alloc ?_ _));exact BK142.out⟩,⟨by (with_reducible repeat (first|refine blk_drewN ?_ _|refine blk_drew ?_|refine blk_alloc ?_ _));refine blk_put (cs:=#[.string ((rd_T117 l0_2 x15_1).f0),.string x145001_1]) ?_ 1 _ rfl;(with_reducible repeat (first|refine blk_drewN ?_ _|refine blk_drew ?_|refine blk_alloc ?_ _));refine blk_put (cs:=#[.string x145000_1,.string x145001_1]) ?_ 0 _ rfl;(with_reducible repeat (first|refine blk_drewN ?_ _|refine blk_drew ?_|refine blk_alloc ?_ _));exact BK144.out⟩,⟨by repeat (first|(with_reducible first|exact HB.out|apply below_alloc|apply pw_below_drewN|apply below_drew1|refine below_set ?_ GE142.out|refine below_set ?_ GE144.out|refine below_set ?_ GE146.out)|exact HB.out)⟩⟩
                · rw [if_neg c20] at H
                  have c20b0:decide ((x145000_1.size:Int) < (((rd_T117 l0_2 x15_1).f0).size:Int))=false:=decide_eq_false c20
                  have c20b1:decide (x145000_1.size < ((rd_T117 l0_2 x15_1).f0).size)=false:=decide_eq_false (fun h=>c20 (Int.ofNat_lt.mpr h))
                  clear c20
                  have H':=Aside0.mk H
                  clear H
                  have p145:0≤(x15_1:Int):=of_decide_eq_true (by first|(with_reducible assumption)|assumption)
                  have q145:x15_1 < (l0_2.length:Int):=of_decide_eq_true (by first|(with_reducible assumption)|assumption)
                  obtain ⟨ad145,e145,hx145_0,hx145_1⟩:=at_T117 HR0_2.out x15_1 p145 q145
                  cases e145
                  replace hx145_0:=(HB.out.cell (World.block_lt_of_cell? w _ hx145_0)).trans hx145_0
                  replace hx145_1:=(HB.out.cell (World.block_lt_of_cell? w _ hx145_1)).trans hx145_1
                  replace p145:=eq_true p145
                  replace q145:=eq_true q145
                  go_wp2_with (first|((with_reducible refine gate_dst (N:=7) rfl ?_);(try (refine gate_guard (by rfl) ?_;dsimp only));refine box_event ?hg (N:=7) ?hd (cs:=#[.string (⟨#[]⟩:ByteArray),.string (⟨#[]⟩:ByteArray)]) (t:=117) ?hr ?_;(case hd=>rfl);(case hg=>rfl);(case hr=>first|(go_simp;done)|(go_simp;rfl));intro gb146 hg w29 hbox hb;have n0_:=Aside0.mk (blk_below (g:=gb142) (o:=.cells #[.string a0_0,.slice A0_1 l0_1.length c0_1,.slice (some ad145) l0_2.length c0_2] 44 (0,0)) (by (with_reducible repeat (first|refine blk_drewN ?_ _|refine blk_drew ?_|refine blk_alloc ?_ _));exact BK142.out) hb);have n1_:=Aside0.mk (blk_below (g:=gb144) (o:=.cells #[.string x145000_1,.string x145001_1] 117 (0,0)) (by (with_reducible repeat (first|refine blk_drewN ?_ _|refine blk_drew ?_|refine blk_alloc ?_ _));exact BK144.out) hb);have n2_:=Aside0.mk (below_step (by repeat (first|(with_reducible first|exact HB.out|apply below_alloc|apply pw_below_drewN|apply below_drew1|refine below_set ?_ GE142.out|refine below_set ?_ GE144.out)|exact HB.out)) hb);have n3_:=Aside0.mk (hbox);have n4_:=Aside0.mk ((by rw [hg];exact (below_size (by repeat (first|(with_reducible first|exact HB.out|apply below_alloc|apply pw_below_drewN|apply below_drew1|refine below_set ?_ GE142.out|refine below_set ?_ GE144.out)|exact HB.out))):w.heap.size≤gb146));have n5_:=Aside0.mk ((by rw [hg];exact (below_size (by repeat (first|(with_reducible first|exact HB.out|apply below_alloc|apply pw_below_drewN|apply below_drew1|refine below_set ?_ GE142.out|refine below_set ?_ GE144.out)|exact HB.out))):w.heap.size≤gb146));have n6_:=Aside0.mk ((by rw [hg];exact Nat.ne_of_lt (blk_lt (g:=gb142) (o:=.cells #[.string a0_0,.slice A0_1 l0_1.length c0_1,.slice (some ad145) l0_2.length c0_2] 44 (0,0)) (by (with_reducible repeat (first|refine blk_drewN ?_ _|refine blk_drew ?_|refine blk_alloc ?_ _));exact BK142.out)):gb142≠gb146));have n7_:=Aside0.mk ((by rw [hg];exact Nat.ne_of_gt (blk_lt (g:=gb142) (o:=.cells #[.string a0_0,.slice A0_1 l0_1.length c0_1,.slice (some ad145) l0_2.length c0_2] 44 (0,0)) (by (with_reducible repeat (first|refine blk_drewN ?_ _|refine blk_drew ?_|refine blk_alloc ?_ _));exact BK142.out)):gb146≠gb142));have n8_:=Aside0.mk ((by rw [hg];exact Nat.ne_of_lt (blk_lt (g:=gb144) (o:=.cells #[.string x145000_1,.string x145001_1] 117 (0,0)) (by (with_reducible repeat (first|refine blk_drewN ?_ _|refine blk_drew ?_|refine blk_alloc ?_ _));exact BK144.out)):gb144≠gb146));have n9_:=Aside0.mk ((by rw [hg];exact Nat.ne_of_gt (blk_lt (g:=gb144) (o:=.cells #[.string x145000_1,.string x145001_1] 117 (0,0)) (by (with_reducible repeat (first|refine blk_drewN ?_ _|refine blk_drew ?_|refine blk_alloc ?_ _));exact BK144.out)):gb146≠gb144));clear BK142;clear BK144;clear HB;have BK142:=n0_;have BK144:=n1_;have HB:=n2_;have BK146:=n3_;have GW146:=n4_;have GE146:=n5_;have NB142_146:=n6_;have NB146_142:=n7_;have NB144_146:=n8_;have NB146_144:=n9_;clear n0_ n1_ n2_ n3_ n4_ n5_ n6_ n7_ n8_ n9_;clear hb hbox hg;have hnb30:=NB146_142.out;have hnc30:=NB142_146.out;have hnb31:=NB146_144.out;have hnc31:=NB144_146.out;have hcz32_0:w29.cell? ⟨gb146,0,none⟩=some (.string (⟨#[]⟩:ByteArray)):=(blk_cell BK146.out 0).trans rfl;have hcz32_1:w29.cell? ⟨gb146,1,none⟩=some (.string (⟨#[]⟩:ByteArray)):=(blk_cell BK146.out 1).trans rfl;have hfz32_0:=blk_frozen BK146.out 0;have hfz32_1:=blk_frozen BK146.out 1)|((with_reducible refine gate_callee (f:=109) rfl ?_);refine goesL_ (some 22) rfl rfl Tryd.func109 (by kernel_rfl) rfl #[.string a1,.string ((rd_T117 l0_2 x15_1).f0)] rfl (by (try simp only [List.map_toArray,List.map_cons,List.map_nil]);first|done|rfl|(simp only [List.length_drop,List.length_take];rfl)) ?_;(with_reducible refine (impl_DomainIn.calls k1 a1 ((rd_T117 l0_2 x15_1).f0) true _ ?side1 A18.out).mono ?_);(case side1=>first|(with_reducible exact HG.out)|((with_reducible repeat (first|exact HG.out|apply GOK.drewN|apply GOK.drew));done)|exact GOK.below HG.out (by repeat (first|(with_reducible first|exact HB.out|apply below_alloc|apply pw_below_drewN|apply below_drew1|refine below_set ?_ GE142.out|refine below_set ?_ GE144.out|refine below_set ?_ GE146.out)|exact HB.out)));rintro e w33 ⟨rfl,hb⟩;refine ⟨_,rfl,?_⟩;have n0_:=Aside0.mk (blk_below (g:=gb142) (o:=.cells #[.string a0_0,.slice A0_1 l0_1.length c0_1,.slice (some ad145) l0_2.length c0_2] 44 (0,0)) (by (with_reducible repeat (first|refine blk_drewN ?_ _|refine blk_drew ?_|refine blk_alloc ?_ _));refine blk_far ?_ NB142_146.out _;(with_reducible repeat (first|refine blk_drewN ?_ _|refine blk_drew ?_|refine blk_alloc ?_ _));refine blk_far ?_ NB142_146.out _;(with_reducible repeat (first|refine blk_drewN ?_ _|refine blk_drew ?_|refine blk_alloc ?_ _));exact BK142.out) hb);have n1_:=Aside0.mk (blk_below (g:=gb144) (o:=.cells #[.string x145000_1,.string x145001_1] 117 (0,0)) (by (with_reducible repeat (first|refine blk_drewN ?_ _|refine blk_drew ?_|refine blk_alloc ?_ _));refine blk_far ?_ NB144_146.out _;(with_reducible repeat (first|refine blk_drewN ?_ _|refine blk_drew ?_|refine blk_alloc ?_ _));refine blk_far ?_ NB144_146.out _;(with_reducible repeat (first|refine blk_drewN ?_ _|refine blk_drew ?_|refine blk_alloc ?_ _));exact BK144.out) hb);have n2_:=Aside0.mk (blk_below (g:=gb146) (o:=.cells #[.string ((rd_T117 l0_2 x15_1).f0),.string ((rd_T117 l0_2 x15_1).f1)] 117 (0,0)) (by (with_reducible repeat (first|refine blk_drewN ?_ _|refine blk_drew ?_|refine blk_alloc ?_ _));refine blk_put (cs:=#[.string ((rd_T117 l0_2 x15_1).f0),.string (⟨#[]⟩:ByteArray)]) ?_ 1 _ rfl;(with_reducible repeat (first|refine blk_drewN ?_ _|refine blk_drew ?_|refine blk_alloc ?_ _));refine blk_put (cs:=#[.string (⟨#[]⟩:ByteArray),.string (⟨#[]⟩:ByteArray)]) ?_ 0 _ rfl;(with_reducible repeat (first|refine blk_drewN ?_ _|refine blk_drew ?_|refine blk_alloc ?_ _));exact BK146.out) hb);have n3_:=Aside0.mk (below_step (by repeat (first|(with_reducible first|exact HB.out|apply below_alloc|apply pw_below_drewN|apply below_drew1|refine below_set ?_ GE142.out|refine below_set ?_ GE144.out|refine below_set ?_ GE146.out)|exact HB.out)) hb);clear BK142;clear BK144;clear BK146;clear HB;have BK142:=n0_;have BK144:=n1_;have BK146:=n2_;have HB:=n3_;clear n0_ n1_ n2_ n3_;(try clear hb);(try clear hb2);(try clear hk);(try clear hi);have hcz34_0:w33.cell? ⟨gb146,0,none⟩=some (.string ((rd_T117 l0_2 x15_1).f0)):=(blk_cell BK146.out 0).trans rfl;have hcz34_1:w33.cell? ⟨gb146,1,none⟩=some (.string ((rd_T117 l0_2 x15_1).f1)):=(blk_cell BK146.out 1).trans rfl;have hfz34_0:=blk_frozen BK146.out 0;have hfz34_1:=blk_frozen BK146.out 1;have hnb35:=NB144_142.out;have hnc35:=NB142_144.out;have hcz36_0:w33.cell? ⟨gb144,0,none⟩=some (.string x145000_1):=(blk_cell BK144.out 0).trans rfl;have hcz36_1:w33.cell? ⟨gb144,1,none⟩=some (.string x145001_1):=(blk_cell BK144.out 1).trans rfl;have hfz36_0:=blk_frozen BK144.out 0;have hfz36_1:=blk_frozen BK144.out 1))
                  go_roundg k1
                  case measure=>have:=HK1.out;omega
                  case rel=>exact ⟨(wrap64 (x15_1+1)),(x145000_1),(x145001_1),(by first|rfl|(simp;done)|(simp [*];done)),H',⟨by have:=HK1.out;omega⟩,⟨by (with_reducible repeat (first|refine blk_drewN ?_ _|refine blk_drew ?_|refine blk_alloc ?_ _));exact BK142.out⟩,⟨by (with_reducible repeat (first|refine blk_drewN ?_ _|refine blk_drew ?_|refine blk_alloc ?_ _));exact BK144.out⟩,⟨by repeat (first|(with_reducible first|exact HB.out|apply below_alloc|apply pw_below_drewN|apply below_drew1|refine below_set ?_ GE142.out|refine below_set ?_ GE144.out|refine below_set ?_ GE146.out)|exact HB.out)⟩⟩
              · replace c19:=Bool.eq_false_iff.mpr c19
                subst c19
                have H1:(impl_Conf_way.l0 k1 a1 l0_2 (l0_2.length:Int) (wrap64 (x15_1+1)) x145000_1 x145001_1)=some r:=by rw [if_neg (show ¬ (false=true) by decide)] at H;exact H
                clear H
                have H:=H1
                clear H1
                have H':=Aside0.mk H
                clear H
                have p145:0≤(x15_1:Int):=of_decide_eq_true (by first|(with_reducible assumption)|assumption)
                have q145:x15_1 < (l0_2.length:Int):=of_decide_eq_true (by first|(with_reducible assumption)|assumption)
                obtain ⟨ad145,e145,hx145_0,hx145_1⟩:=at_T117 HR0_2.out x15_1 p145 q145
                cases e145
                replace hx145_0:=(HB.out.cell (World.block_lt_of_cell? w _ hx145_0)).trans hx145_0
                replace hx145_1:=(HB.out.cell (World.block_lt_of_cell? w _ hx145_1)).trans hx145_1
                replace p145:=eq_true p145
                replace q145:=eq_true q145
                go_wp2_with (first|((with_reducible refine gate_dst (N:=7) rfl ?_);(try (refine gate_guard (by rfl) ?_;dsimp only));refine box_event ?hg (N:=7) ?hd (cs:=#[.string (⟨#[]⟩:ByteArray),.string (⟨#[]⟩:ByteArray)]) (t:=117) ?hr ?_;(case hd=>rfl);(case hg=>rfl);(case hr=>first|(go_simp;done)|(go_simp;rfl));intro gb146 hg w37 hbox hb;have n0_:=Aside0.mk (blk_below (g:=gb142) (o:=.cells #[.string a0_0,.slice A0_1 l0_1.length c0_1,.slice (some ad145) l0_2.length c0_2] 44 (0,0)) (by (with_reducible repeat (first|refine blk_drewN ?_ _|refine blk_drew ?_|refine blk_alloc ?_ _));exact BK142.out) hb);have n1_:=Aside0.mk (blk_below (g:=gb144) (o:=.cells #[.string x145000_1,.string x145001_1] 117 (0,0)) (by (with_reducible repeat (first|refine blk_drewN ?_ _|refine blk_drew ?_|refine blk_alloc ?_ _));exact BK144.out) hb);have n2_:=Aside0.mk (below_step (by repeat (first|(with_reducible first|exact HB.out|apply below_alloc|apply pw_below_drewN|apply below_drew1|refine below_set ?_ GE142.out|refine below_set ?_ GE144.out)|exact HB.out)) hb);have n3_:=Aside0.mk (hbox);have n4_:=Aside0.mk ((by rw [hg];exact (below_size (by repeat (first|(with_reducible first|exact HB.out|apply below_alloc|apply pw_below_drewN|apply below_drew1|refine below_set ?_ GE142.out|refine below_set ?_ GE144.out)|exact HB.out))):w.heap.size≤gb146));have n5_:=Aside0.mk ((by rw [hg];exact (below_size (by repeat (first|(with_reducible first|exact HB.out|apply below_alloc|apply pw_below_drewN|apply below_drew1|refine below_set ?_ GE142.out|refine below_set ?_ GE144.out)|exact HB.out))):w.heap.size≤gb146));have n6_:=Aside0.mk ((by rw [hg];exact Nat.ne_of_lt (blk_lt (g:=gb142) (o:=.cells #[.string a0_0,.slice A0_1 l0_1.length c0_1,.slice (some ad145) l0_2.length c0_2] 44 (0,0)) (by (with_reducible repeat (first|refine blk_drewN ?_ _|refine blk_drew ?_|refine blk_alloc ?_ _));exact BK142.out)):gb142≠gb146));have n7_:=Aside0.mk ((by rw [hg];exact Nat.ne_of_gt (blk_lt (g:=gb142) (o:=.cells #[.string a0_0,.slice A0_1 l0_1.length c0_1,.slice (some ad145) l0_2.length c0_2] 44 (0,0)) (by (with_reducible repeat (first|refine blk_drewN ?_ _|refine blk_drew ?_|refine blk_alloc ?_ _));exact BK142.out)):gb146≠gb142));have n8_:=Aside0.mk ((by rw [hg];exact Nat.ne_of_lt (blk_lt (g:=gb144) (o:=.cells #[.string x145000_1,.string x145001_1] 117 (0,0)) (by (with_reducible repeat (first|refine blk_drewN ?_ _|refine blk_drew ?_|refine blk_alloc ?_ _));exact BK144.out)):gb144≠gb146));have n9_:=Aside0.mk ((by rw [hg];exact Nat.ne_of_gt (blk_lt (g:=gb144) (o:=.cells #[.string x145000_1,.string x145001_1] 117 (0,0)) (by (with_reducible repeat (first|refine blk_drewN ?_ _|refine blk_drew ?_|refine blk_alloc ?_ _));exact BK144.out)):gb146≠gb144));clear BK142;clear BK144;clear HB;have BK142:=n0_;have BK144:=n1_;have HB:=n2_;have BK146:=n3_;have GW146:=n4_;have GE146:=n5_;have NB142_146:=n6_;have NB146_142:=n7_;have NB144_146:=n8_;have NB146_144:=n9_;clear n0_ n1_ n2_ n3_ n4_ n5_ n6_ n7_ n8_ n9_;clear hb hbox hg;have hnb38:=NB146_142.out;have hnc38:=NB142_146.out;have hnb39:=NB146_144.out;have hnc39:=NB144_146.out;have hcz40_0:w37.cell? ⟨gb146,0,none⟩=some (.string (⟨#[]⟩:ByteArray)):=(blk_cell BK146.out 0).trans rfl;have hcz40_1:w37.cell? ⟨gb146,1,none⟩=some (.string (⟨#[]⟩:ByteArray)):=(blk_cell BK146.out 1).trans rfl;have hfz40_0:=blk_frozen BK146.out 0;have hfz40_1:=blk_frozen BK146.out 1)|((with_reducible refine gate_callee (f:=109) rfl ?_);refine goesL_ (some 22) rfl rfl Tryd.func109 (by kernel_rfl) rfl #[.string a1,.string ((rd_T117 l0_2 x15_1).f0)] rfl (by (try simp only [List.map_toArray,List.map_cons,List.map_nil]);first|done|rfl|(simp only [List.length_drop,List.length_take];rfl)) ?_;(with_reducible refine (impl_DomainIn.calls k1 a1 ((rd_T117 l0_2 x15_1).f0) false _ ?side1 A18.out).mono ?_);(case side1=>first|(with_reducible exact HG.out)|((with_reducible repeat (first|exact HG.out|apply GOK.drewN|apply GOK.drew));done)|exact GOK.below HG.out (by repeat (first|(with_reducible first|exact HB.out|apply below_alloc|apply pw_below_drewN|apply below_drew1|refine below_set ?_ GE142.out|refine below_set ?_ GE144.out|refine below_set ?_ GE146.out)|exact HB.out)));rintro e w41 ⟨rfl,hb⟩;refine ⟨_,rfl,?_⟩;have n0_:=Aside0.mk (blk_below (g:=gb142) (o:=.cells #[.string a0_0,.slice A0_1 l0_1.length c0_1,.slice (some ad145) l0_2.length c0_2] 44 (0,0)) (by (with_reducible repeat (first|refine blk_drewN ?_ _|refine blk_drew ?_|refine blk_alloc ?_ _));refine blk_far ?_ NB142_146.out _;(with_reducible repeat (first|refine blk_drewN ?_ _|refine blk_drew ?_|refine blk_alloc ?_ _));refine blk_far ?_ NB142_146.out _;(with_reducible repeat (first|refine blk_drewN ?_ _|refine blk_drew ?_|refine blk_alloc ?_ _));exact BK142.out) hb);have n1_:=Aside0.mk (blk_below (g:=gb144) (o:=.cells #[.string x145000_1,.string x145001_1] 117 (0,0)) (by (with_reducible repeat (first|refine blk_drewN ?_ _|refine blk_drew ?_|refine blk_alloc ?_ _));refine blk_far ?_ NB144_146.out _;(with_reducible repeat (first|refine blk_drewN ?_ _|refine blk_drew ?_|refine blk_alloc ?_ _));refine blk_far ?_ NB144_146.out _;(with_reducible repeat (first|refine blk_drewN ?_ _|refine blk_drew ?_|refine blk_alloc ?_ _));exact BK144.out) hb);have n2_:=Aside0.mk (blk_below (g:=gb146) (o:=.cells #[.string ((rd_T117 l0_2 x15_1).f0),.string ((rd_T117 l0_2 x15_1).f1)] 117 (0,0)) (by (with_reducible repeat (first|refine blk_drewN ?_ _|refine blk_drew ?_|refine blk_alloc ?_ _));refine blk_put (cs:=#[.string ((rd_T117 l0_2 x15_1).f0),.string (⟨#[]⟩:ByteArray)]) ?_ 1 _ rfl;(with_reducible repeat (first|refine blk_drewN ?_ _|refine blk_drew ?_|refine blk_alloc ?_ _));refine blk_put (cs:=#[.string (⟨#[]⟩:ByteArray),.string (⟨#[]⟩:ByteArray)]) ?_ 0 _ rfl;(with_reducible repeat (first|refine blk_drewN ?_ _|refine blk_drew ?_|refine blk_alloc ?_ _));exact BK146.out) hb);have n3_:=Aside0.mk (below_step (by repeat (first|(with_reducible first|exact HB.out|apply below_alloc|apply pw_below_drewN|apply below_drew1|refine below_set ?_ GE142.out|refine below_set ?_ GE144.out|refine below_set ?_ GE146.out)|exact HB.out)) hb);clear BK142;clear BK144;clear BK146;clear HB;have BK142:=n0_;have BK144:=n1_;have BK146:=n2_;have HB:=n3_;clear n0_ n1_ n2_ n3_;(try clear hb);(try clear hb2);(try clear hk);(try clear hi)))
                go_roundg k1
                case measure=>have:=HK1.out;omega
                case rel=>exact ⟨(wrap64 (x15_1+1)),(x145000_1),(x145001_1),(by first|rfl|(simp;done)|(simp [*];done)),H',⟨by have:=HK1.out;omega⟩,⟨by (with_reducible repeat (first|refine blk_drewN ?_ _|refine blk_drew ?_|refine blk_alloc ?_ _));exact BK142.out⟩,⟨by (with_reducible repeat (first|refine blk_drewN ?_ _|refine blk_drew ?_|refine blk_alloc ?_ _));exact BK144.out⟩,⟨by repeat (first|(with_reducible first|exact HB.out|apply below_alloc|apply pw_below_drewN|apply below_drew1|refine below_set ?_ GE142.out|refine below_set ?_ GE144.out|refine below_set ?_ GE146.out)|exact HB.out)⟩⟩
            · rw [if_neg c17] at H
              exact absurd H (by simp)
          · rw [if_neg c16] at H
            exact absurd H (by simp)
        · rw [if_neg c15] at H
          have c15b0:decide (x15_1 < (l0_2.length:Int))=false:=decide_eq_false c15
          clear c15
          obtain rfl:=Option.some.inj H
          have hnb42:=NB144_142.out
          have hnc42:=NB142_144.out
          have hcz43_0:wr.cell? ⟨gb144,0,none⟩=some (.string x145000_1):=(blk_cell BK144.out 0).trans rfl
          have hcz43_1:wr.cell? ⟨gb144,1,none⟩=some (.string x145001_1):=(blk_cell BK144.out 1).trans rfl
          have hfz43_0:=blk_frozen BK144.out 0
          have hfz43_1:=blk_frozen BK144.out 1
          go_wp2
          go_ret
          exact ⟨by first|rfl|(simp [errW_none,errW_some]<;>rfl)|(simp [*,errW_none,errW_some]<;>rfl),by repeat (first|(with_reducible first|exact HB.out|apply below_alloc|apply pw_below_drewN|apply below_drew1|refine below_set ?_ GE142.out|refine below_set ?_ GE144.out)|exact HB.out)⟩
end Go.Proofs.YthkibaldmjfmmaaDoor.Q
