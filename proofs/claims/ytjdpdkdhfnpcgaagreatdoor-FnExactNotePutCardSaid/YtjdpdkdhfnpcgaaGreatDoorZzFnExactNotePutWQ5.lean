/- Of a text of ours what this claim needs. -/
import Derived.Test.YtjdpdkdhfnpcgaaGreatDoorZzFnExactNotePutWQ0
import Derived.Test.YtjdpdkdhfnpcgaaGreatDoorZzFnExactNotePutWQ4
namespace Go.Proofs.YtjdpdkdhfnpcgaaGreatDoor.Q
open Go.RowKit Go.Proofs.YtjdpdkdhfnpcgaaGreatDoorW.PrintWords Go.Proofs.YtjdpdkdhfnpcgaaGreatDoorW.PrintLast Go.Proofs.YtjdpdkdhfnpcgaaGreatDoorW.PrintMore
attribute [local go_sem] max2_int min2_int max_two min_two max_three min_three max_four min_four
set_option linter.unusedVariables false
set_option linter.unusedSimpArgs false
def spec_l1Domain.l0:Nat→List ByteArray→Int→Option (Bool)
  | 0,_,_=>none
  | k+1,x3,x4=>if x4 < (x3.length:Int) then (if 0≤x4 then ((spec_l1Word.f k (rdOf ByteArray.empty x3 x4)).bind fun t114=>(if t114=true then (spec_l1Domain.l0 k x3 (wrap64 (x4+1))) else (some false))) else (none)) else (some (decide ((x3.length:Int)≤3)))
def spec_l1Domain.f (k:Nat) (a0:ByteArray):Option (Bool):=(spec_l1Cut.f k a0 46 3).bind fun t110=>(spec_l1Domain.l0 k t110 0)
set_option maxHeartbeats 8000000 in
set_option maxRecDepth 100000 in
theorem spec_l1Domain.calls (k:Nat) (a0:ByteArray) (r:Bool) (w:World) (h:spec_l1Domain.f k a0=some r) :
    Calls Tryz.prog 109 #[.string a0] w fun e w'=>e=.returned (.bool r)∧Below w.heap.size w w':=by
  have HB:=Aside0.mk (Below.refl w.heap.size w)
  have H:((spec_l1Cut.f k a0 46 3).bind fun t110=>(spec_l1Domain.l0 k t110 0))=some r:=h
  clear h
  replace H:=Option.bind_eq_some_iff.mp H
  obtain ⟨t110,A20,H⟩:=H
  replace H:(spec_l1Domain.l0 k t110 0)=some r:=H
  have A2:=Aside0.mk A20
  clear A20
  have H':=Aside0.mk H
  clear H
  go_enter Tryz.func109,Tryz.ntmps109
  go_wp2_with (first|((with_reducible refine gate_callee (f:=78) rfl ?_);refine goesL_ (some 6) rfl rfl Tryz.func78 (by kernel_rfl) rfl #[.string a0,.int .u8 46,.int .i64 3] rfl (by (try simp only [List.map_toArray,List.map_cons,List.map_nil]);first|done|rfl|(simp only [List.length_drop,List.length_take];rfl)) ?_;(with_reducible refine (spec_l1Cut.calls k a0 46 3 t110 _ A2.out).mono ?_);rintro e w3 ⟨v111,rfl,ho0,hb⟩;refine ⟨_,rfl,?_⟩;have n0_:=Aside0.mk (Kd.R_lower ho0 (below_size (by repeat (first|(with_reducible first|exact HB.out|apply below_alloc|apply pw_below_drewN|apply below_drew1)|exact HB.out))));have n1_:=Aside0.mk (below_step (by repeat (first|(with_reducible first|exact HB.out|apply below_alloc|apply pw_below_drewN|apply below_drew1)|exact HB.out)) hb);clear HB;have HO112:=n0_;have HB:=n1_;clear n0_ n1_;(try clear hb);(try clear hb2);(try clear hk);(try clear hi);(try clear ho0)))
  go_loopg [4] k (fun kq v4 w'=>∃ (x4_1:Int),v4=.int .i64 x4_1∧Aside0 (spec_l1Domain.l0 kq t110 x4_1=some r)∧Aside0 (kq≤k)∧Aside0 (Kd.R Kd.string 9 w' w.heap.size (fun _=>True) v111 t110)∧Aside0 (Below w.heap.size w w'))
  case atStart=>exact ⟨(0),(by first|rfl|(simp;done)|(simp [*];done)),H',⟨Nat.le_refl _⟩,⟨by (with_reducible repeat (first|apply Kd.R_alloc|apply Kd.R_drewN|apply Kd.R_drew));exact HO112.out⟩,⟨by repeat (first|(with_reducible first|exact HB.out|apply below_alloc|apply pw_below_drewN|apply below_drew1)|exact HB.out)⟩⟩
  case round =>
    clear H'
    try clear c1
    try clear p2
    obtain ⟨x4_1,rfl,HA,HK1,HO_3,HB⟩:=hrel
    cases gk with
    | zero=>exact absurd HA.out (by simp [spec_l1Domain.l0])
    | succ k1 =>
      have H:=HA.out
      clear HA
      simp only [spec_l1Domain.l0] at H
      by_cases c4:x4_1 < (t110.length:Int)
      · rw [if_pos c4] at H
        have c4b0:decide (x4_1 < (t110.length:Int))=true:=decide_eq_true c4
        clear c4
        by_cases c5:0≤x4_1
        · rw [if_pos c5] at H
          have c5b0:decide (0≤x4_1)=true:=decide_eq_true c5
          clear c5
          replace H:=Option.bind_eq_some_iff.mp H
          obtain ⟨t114,A60,H⟩:=H
          replace H:(if t114=true then (spec_l1Domain.l0 k1 t110 (wrap64 (x4_1+1))) else (some false))=some r:=H
          have A6:=Aside0.mk A60
          clear A60
          by_cases c7:t114=true
          · subst c7
            have H1:(spec_l1Domain.l0 k1 t110 (wrap64 (x4_1+1)))=some r:=by rw [if_pos rfl] at H;exact H
            clear H
            have H:=H1
            clear H1
            have H':=Aside0.mk H
            clear H
            obtain ⟨Ao8,co8,eo8⟩:=Kd.R_slice HO_3.out
            subst eo8
            have p113:0≤(x4_1:Int):=of_decide_eq_true (by first|(with_reducible assumption)|assumption)
            have q113:x4_1 < (t110.length:Int):=of_decide_eq_true (by first|(with_reducible assumption)|assumption)
            obtain ⟨ad113,e113,hx113_0⟩:=Kd.at_string (Kd.R_reads' HO_3.out).2.2 x4_1 p113 q113
            cases e113
            replace p113:=eq_true p113
            replace q113:=eq_true q113
            go_wp2_with (first|((with_reducible refine gate_callee (f:=108) rfl ?_);refine goesL_ (some 17) rfl rfl Tryz.func108 (by kernel_rfl) rfl #[.string (rdOf ByteArray.empty t110 x4_1)] rfl (by (try simp only [List.map_toArray,List.map_cons,List.map_nil]);first|done|rfl|(simp only [List.length_drop,List.length_take];rfl)) ?_;(with_reducible refine (spec_l1Word.calls k1 (rdOf ByteArray.empty t110 x4_1) true _ A6.out).mono ?_);rintro e w' ⟨rfl,⟨nd,rfl⟩⟩;refine ⟨_,rfl,?_⟩))
            go_roundg k1
            case measure=>have:=HK1.out;omega
            case rel=>exact ⟨(wrap64 (x4_1+1)),(by first|rfl|(simp;done)|(simp [*];done)),H',⟨by have:=HK1.out;omega⟩,⟨by (with_reducible repeat (first|apply Kd.R_alloc|apply Kd.R_drewN|apply Kd.R_drew));exact HO_3.out⟩,⟨by repeat (first|(with_reducible first|exact HB.out|apply below_alloc|apply pw_below_drewN|apply below_drew1)|exact HB.out)⟩⟩
          · replace c7:=Bool.eq_false_iff.mpr c7
            subst c7
            have H1:(some false)=some r:=by rw [if_neg (show ¬ (false=true) by decide)] at H;exact H
            clear H
            have H:=H1
            clear H1
            obtain rfl:=Option.some.inj H
            obtain ⟨Ao9,co9,eo9⟩:=Kd.R_slice HO_3.out
            subst eo9
            have p113:0≤(x4_1:Int):=of_decide_eq_true (by first|(with_reducible assumption)|assumption)
            have q113:x4_1 < (t110.length:Int):=of_decide_eq_true (by first|(with_reducible assumption)|assumption)
            obtain ⟨ad113,e113,hx113_0⟩:=Kd.at_string (Kd.R_reads' HO_3.out).2.2 x4_1 p113 q113
            cases e113
            replace p113:=eq_true p113
            replace q113:=eq_true q113
            go_wp2_with (first|((with_reducible refine gate_callee (f:=108) rfl ?_);refine goesL_ (some 17) rfl rfl Tryz.func108 (by kernel_rfl) rfl #[.string (rdOf ByteArray.empty t110 x4_1)] rfl (by (try simp only [List.map_toArray,List.map_cons,List.map_nil]);first|done|rfl|(simp only [List.length_drop,List.length_take];rfl)) ?_;(with_reducible refine (spec_l1Word.calls k1 (rdOf ByteArray.empty t110 x4_1) false _ A6.out).mono ?_);rintro e w' ⟨rfl,⟨nd,rfl⟩⟩;refine ⟨_,rfl,?_⟩))
            go_ret
            exact ⟨by first|rfl|(simp [errW_none,errW_some]<;>rfl)|(simp [*,errW_none,errW_some]<;>rfl),by repeat (first|(with_reducible first|exact HB.out|apply below_alloc|apply pw_below_drewN|apply below_drew1)|exact HB.out)⟩
        · rw [if_neg c5] at H
          exact absurd H (by simp)
      · rw [if_neg c4] at H
        have c4b0:decide (x4_1 < (t110.length:Int))=false:=decide_eq_false c4
        clear c4
        obtain rfl:=Option.some.inj H
        obtain ⟨Ao10,co10,eo10⟩:=Kd.R_slice HO_3.out
        subst eo10
        go_wp2
        go_ret
        exact ⟨by first|rfl|(simp [errW_none,errW_some]<;>rfl)|(simp [*,errW_none,errW_some]<;>rfl),by repeat (first|(with_reducible first|exact HB.out|apply below_alloc|apply pw_below_drewN|apply below_drew1)|exact HB.out)⟩
def spec_l1AddrOk.f (k:Nat) (a0_0:ByteArray) (a0_1:ByteArray):Option (Bool):=(spec_l1Word.f k a0_0).bind fun t116=>(if t116=true then ((spec_l1Domain.f k a0_1).bind fun t117=>(some t117)) else (some false))
set_option maxHeartbeats 8000000 in
set_option maxRecDepth 100000 in
theorem spec_l1AddrOk.calls (k:Nat) (a0_0:ByteArray) (a0_1:ByteArray) (r:Bool) (w:World) (h:spec_l1AddrOk.f k a0_0 a0_1=some r) :
    Calls Tryz.prog 59 #[.agg #[.string a0_0,.string a0_1]] w fun e w'=>e=.returned (.bool r)∧Below w.heap.size w w':=by
  have hu24:=Tryz.underlying24
  have HB:=Aside0.mk (Below.refl w.heap.size w)
  have H:((spec_l1Word.f k a0_0).bind fun t116=>(if t116=true then ((spec_l1Domain.f k a0_1).bind fun t117=>(some t117)) else (some false)))=some r:=h
  clear h
  replace H:=Option.bind_eq_some_iff.mp H
  obtain ⟨t116,A20,H⟩:=H
  replace H:(if t116=true then ((spec_l1Domain.f k a0_1).bind fun t117=>(some t117)) else (some false))=some r:=H
  have A2:=Aside0.mk A20
  clear A20
  by_cases c3:t116=true
  · subst c3
    have H1:((spec_l1Domain.f k a0_1).bind fun t117=>(some t117))=some r:=by rw [if_pos rfl] at H;exact H
    clear H
    have H:=H1
    clear H1
    replace H:=Option.bind_eq_some_iff.mp H
    obtain ⟨t117,A40,H⟩:=H
    replace H:(some t117)=some r:=H
    have A4:=Aside0.mk A40
    clear A40
    obtain rfl:=Option.some.inj H
    go_enter Tryz.func59,Tryz.ntmps59
    go_wp2_with (first|((with_reducible refine gate_dst (N:=1) rfl ?_);refine box_event ?hg (N:=1) ?hd (cs:=#[.string a0_0,.string a0_1]) (t:=24) ?hr ?_;(case hd=>rfl);(case hg=>rfl);(case hr=>first|(go_simp;done)|(go_simp;rfl));intro gb115 hg w5 hbox hb;have n0_:=Aside0.mk (below_step (by repeat (first|(with_reducible first|exact HB.out|apply below_alloc|apply pw_below_drewN|apply below_drew1)|exact HB.out)) hb);have n1_:=Aside0.mk (hbox);have n2_:=Aside0.mk ((by rw [hg];exact (below_size (by repeat (first|(with_reducible first|exact HB.out|apply below_alloc|apply pw_below_drewN|apply below_drew1)|exact HB.out))):w.heap.size≤gb115));have n3_:=Aside0.mk ((by rw [hg];exact (below_size (by repeat (first|(with_reducible first|exact HB.out|apply below_alloc|apply pw_below_drewN|apply below_drew1)|exact HB.out))):w.heap.size≤gb115));clear HB;have HB:=n0_;have BK115:=n1_;have GW115:=n2_;have GE115:=n3_;clear n0_ n1_ n2_ n3_;clear hb hbox hg;have hcz6_0:w5.cell? ⟨gb115,0,none⟩=some (.string a0_0):=(blk_cell BK115.out 0).trans rfl;have hcz6_1:w5.cell? ⟨gb115,1,none⟩=some (.string a0_1):=(blk_cell BK115.out 1).trans rfl;have hfz6_0:=blk_frozen BK115.out 0;have hfz6_1:=blk_frozen BK115.out 1)|((with_reducible refine gate_callee (f:=108) rfl ?_);refine goesL_ (some 5) rfl rfl Tryz.func108 (by kernel_rfl) rfl #[.string a0_0] rfl (by (try simp only [List.map_toArray,List.map_cons,List.map_nil]);first|done|rfl|(simp only [List.length_drop,List.length_take];rfl)) ?_;(with_reducible refine (spec_l1Word.calls k a0_0 true _ A2.out).mono ?_);rintro e w' ⟨rfl,⟨nd,rfl⟩⟩;refine ⟨_,rfl,?_⟩)|(go_at_call 109;(with_reducible refine (spec_l1Domain.calls k a0_1 t117 _ A4.out).mono ?_);rintro e w7 ⟨rfl,hb⟩;have n0_:=Aside0.mk (blk_below (g:=gb115) (o:=.cells #[.string a0_0,.string a0_1] 24 (0,0)) (by (with_reducible repeat (first|refine blk_drewN ?_ _|refine blk_drew ?_|refine blk_alloc ?_ _));exact BK115.out) hb);have n1_:=Aside0.mk (below_step (by repeat (first|(with_reducible first|exact HB.out|apply below_alloc|apply pw_below_drewN|apply below_drew1|refine below_set ?_ GE115.out)|exact HB.out)) hb);clear BK115;clear HB;have BK115:=n0_;have HB:=n1_;clear n0_ n1_;(try clear hb);(try clear hb2);(try clear hk);(try clear hi)))
    go_ret
    exact ⟨by first|rfl|(simp [errW_none,errW_some]<;>rfl)|(simp [*,errW_none,errW_some]<;>rfl),by repeat (first|(with_reducible first|exact HB.out|apply below_alloc|apply pw_below_drewN|apply below_drew1|refine below_set ?_ GE115.out)|exact HB.out)⟩
  · replace c3:=Bool.eq_false_iff.mpr c3
    subst c3
    have H1:(some false)=some r:=by rw [if_neg (show ¬ (false=true) by decide)] at H;exact H
    clear H
    have H:=H1
    clear H1
    obtain rfl:=Option.some.inj H
    go_enter Tryz.func59,Tryz.ntmps59
    go_wp2_with (first|((with_reducible refine gate_dst (N:=1) rfl ?_);refine box_event ?hg (N:=1) ?hd (cs:=#[.string a0_0,.string a0_1]) (t:=24) ?hr ?_;(case hd=>rfl);(case hg=>rfl);(case hr=>first|(go_simp;done)|(go_simp;rfl));intro gb115 hg w8 hbox hb;have n0_:=Aside0.mk (below_step (by repeat (first|(with_reducible first|exact HB.out|apply below_alloc|apply pw_below_drewN|apply below_drew1)|exact HB.out)) hb);have n1_:=Aside0.mk (hbox);have n2_:=Aside0.mk ((by rw [hg];exact (below_size (by repeat (first|(with_reducible first|exact HB.out|apply below_alloc|apply pw_below_drewN|apply below_drew1)|exact HB.out))):w.heap.size≤gb115));have n3_:=Aside0.mk ((by rw [hg];exact (below_size (by repeat (first|(with_reducible first|exact HB.out|apply below_alloc|apply pw_below_drewN|apply below_drew1)|exact HB.out))):w.heap.size≤gb115));clear HB;have HB:=n0_;have BK115:=n1_;have GW115:=n2_;have GE115:=n3_;clear n0_ n1_ n2_ n3_;clear hb hbox hg;have hcz9_0:w8.cell? ⟨gb115,0,none⟩=some (.string a0_0):=(blk_cell BK115.out 0).trans rfl;have hcz9_1:w8.cell? ⟨gb115,1,none⟩=some (.string a0_1):=(blk_cell BK115.out 1).trans rfl;have hfz9_0:=blk_frozen BK115.out 0;have hfz9_1:=blk_frozen BK115.out 1)|((with_reducible refine gate_callee (f:=108) rfl ?_);refine goesL_ (some 5) rfl rfl Tryz.func108 (by kernel_rfl) rfl #[.string a0_0] rfl (by (try simp only [List.map_toArray,List.map_cons,List.map_nil]);first|done|rfl|(simp only [List.length_drop,List.length_take];rfl)) ?_;(with_reducible refine (spec_l1Word.calls k a0_0 false _ A2.out).mono ?_);rintro e w' ⟨rfl,⟨nd,rfl⟩⟩;refine ⟨_,rfl,?_⟩))
    go_ret
    exact ⟨by first|rfl|(simp [errW_none,errW_some]<;>rfl)|(simp [*,errW_none,errW_some]<;>rfl),by repeat (first|(with_reducible first|exact HB.out|apply below_alloc|apply pw_below_drewN|apply below_drew1|refine below_set ?_ GE115.out)|exact HB.out)⟩
def spec_l2LineOk.l0:Nat→ByteArray→Int→Option (Bool)
  | 0,_,_=>none
  | k+1,x0,x3=>if x3 < (x0.size:Int) then (if 0≤x3 then (if (bt x0 x3) < 32 then (some false) else (if (bt x0 x3) > 126 then (some false) else (spec_l2LineOk.l0 k x0 (wrap64 (x3+1))))) else (none)) else (some (decide ((x0.size:Int)≤40)))
def spec_l2LineOk.f (k:Nat) (a0:ByteArray):Option (Bool):=spec_l2LineOk.l0 k a0 0
set_option maxHeartbeats 8000000 in
set_option maxRecDepth 100000 in
theorem spec_l2LineOk.calls (k:Nat) (a0:ByteArray) (r:Bool) (w:World) (h:spec_l2LineOk.f k a0=some r) :
    Calls Tryz.prog 140 #[.string a0] w fun e w'=>e=.returned (.bool r)∧Drawn0 w w':=by
  have H:(spec_l2LineOk.l0 k a0 0)=some r:=h
  clear h
  have H':=Aside0.mk H
  clear H
  go_enter Tryz.func140,Tryz.ntmps140
  go_wp2
  go_loopg [3] k (fun kq v3 w'=>∃ (x3_1:Int),v3=.int .i64 x3_1∧Aside0 (spec_l2LineOk.l0 kq a0 x3_1=some r)∧Aside0 (kq≤k)∧Drawn0 w w')
  case atStart=>exact ⟨(0),(by first|rfl|(simp;done)|(simp [*];done)),H',⟨Nat.le_refl _⟩,by repeat (first|exact Drawn0.refl _|apply Drawn0.step)⟩
  case round =>
    clear H'
    try clear c1
    obtain ⟨x3_1,rfl,HA,HK1,⟨m1,rfl⟩⟩:=hrel
    cases gk with
    | zero=>exact absurd HA.out (by simp [spec_l2LineOk.l0])
    | succ k1 =>
      have H:=HA.out
      clear HA
      simp only [spec_l2LineOk.l0] at H
      by_cases c2:x3_1 < (a0.size:Int)
      · rw [if_pos c2] at H
        have c2b0:decide (x3_1 < (a0.size:Int))=true:=decide_eq_true c2
        clear c2
        by_cases c3:0≤x3_1
        · rw [if_pos c3] at H
          have c3b0:decide (0≤x3_1)=true:=decide_eq_true c3
          clear c3
          by_cases c5:(bt a0 x3_1) < 32
          · rw [if_pos c5] at H
            have c5b0:decide ((bt a0 x3_1) < 32)=true:=decide_eq_true c5
            clear c5
            obtain rfl:=Option.some.inj H
            have p4:0≤(x3_1:Int):=of_decide_eq_true (by first|(with_reducible assumption)|assumption)
            have q4:x3_1 < (a0.size:Int):=of_decide_eq_true (by first|(with_reducible assumption)|assumption)
            have hx4:=bt_at a0 x3_1
            replace p4:=eq_true p4
            replace q4:=eq_true q4
            go_wp2
            go_ret
            exact ⟨by first|rfl|(simp;done)|(simp [*];done),by repeat (first|exact Drawn0.refl _|apply Drawn0.step)⟩
          · rw [if_neg c5] at H
            have c5b0:decide ((bt a0 x3_1) < 32)=false:=decide_eq_false c5
            clear c5
            by_cases c7:(bt a0 x3_1) > 126
            · rw [if_pos c7] at H
              have c7b0:decide (126 < (bt a0 x3_1))=true:=decide_eq_true c7
              clear c7
              obtain rfl:=Option.some.inj H
              have p4:0≤(x3_1:Int):=of_decide_eq_true (by first|(with_reducible assumption)|assumption)
              have q4:x3_1 < (a0.size:Int):=of_decide_eq_true (by first|(with_reducible assumption)|assumption)
              have hx4:=bt_at a0 x3_1
              replace p4:=eq_true p4
              replace q4:=eq_true q4
              have p6:0≤(x3_1:Int):=of_decide_eq_true (by first|(with_reducible assumption)|assumption)
              have q6:x3_1 < (a0.size:Int):=of_decide_eq_true (by first|(with_reducible assumption)|assumption)
              have hx6:=bt_at a0 x3_1
              replace p6:=eq_true p6
              replace q6:=eq_true q6
              go_wp2
              go_ret
              exact ⟨by first|rfl|(simp;done)|(simp [*];done),by repeat (first|exact Drawn0.refl _|apply Drawn0.step)⟩
            · rw [if_neg c7] at H
              have c7b0:decide (126 < (bt a0 x3_1))=false:=decide_eq_false c7
              clear c7
              have H':=Aside0.mk H
              clear H
              have p4:0≤(x3_1:Int):=of_decide_eq_true (by first|(with_reducible assumption)|assumption)
              have q4:x3_1 < (a0.size:Int):=of_decide_eq_true (by first|(with_reducible assumption)|assumption)
              have hx4:=bt_at a0 x3_1
              replace p4:=eq_true p4
              replace q4:=eq_true q4
              have p6:0≤(x3_1:Int):=of_decide_eq_true (by first|(with_reducible assumption)|assumption)
              have q6:x3_1 < (a0.size:Int):=of_decide_eq_true (by first|(with_reducible assumption)|assumption)
              have hx6:=bt_at a0 x3_1
              replace p6:=eq_true p6
              replace q6:=eq_true q6
              go_wp2
              go_roundg k1
              case measure=>have:=HK1.out;omega
              case rel=>exact ⟨(wrap64 (x3_1+1)),(by first|rfl|(simp;done)|(simp [*];done)),H',⟨by have:=HK1.out;omega⟩,by repeat (first|exact Drawn0.refl _|apply Drawn0.step)⟩
        · rw [if_neg c3] at H
          exact absurd H (by simp)
      · rw [if_neg c2] at H
        have c2b0:decide (x3_1 < (a0.size:Int))=false:=decide_eq_false c2
        clear c2
        obtain rfl:=Option.some.inj H
        go_wp2
        go_ret
        exact ⟨by first|rfl|(simp;done)|(simp [*];done),by repeat (first|exact Drawn0.refl _|apply Drawn0.step)⟩
def spec_l2BodyOk.l0:Nat→List ByteArray→Int→Option (Bool)
  | 0,_,_=>none
  | k+1,x0,x3=>if x3 < (x0.length:Int) then (if 0≤x3 then ((spec_l2LineOk.f k (rdOf ByteArray.empty x0 x3)).bind fun t102=>(if t102=true then (spec_l2BodyOk.l0 k x0 (wrap64 (x3+1))) else (some false))) else (none)) else (some (decide ((x0.length:Int)≤12)))
def spec_l2BodyOk.f (k:Nat) (l0:List ByteArray):Option (Bool):=spec_l2BodyOk.l0 k l0 0
set_option maxHeartbeats 8000000 in
set_option maxRecDepth 100000 in
theorem spec_l2BodyOk.calls (k:Nat) (A0:Option Addr) (c0:Nat) (l0:List ByteArray) (r:Bool) (w:World) (hr0:Kd.C Kd.string w A0 l0.length l0) (hc0:l0.length≤c0) (h:spec_l2BodyOk.f k l0=some r) :
    Calls Tryz.prog 107 #[.slice A0 l0.length c0] w fun e w'=>e=.returned (.bool r)∧Drawn0 w w':=by
  have HR0:=Aside0.mk hr0
  have HC0:=Aside0.mk hc0
  clear hr0 hc0
  have H:(spec_l2BodyOk.l0 k l0 0)=some r:=h
  clear h
  have H':=Aside0.mk H
  clear H
  go_enter Tryz.func107,Tryz.ntmps107
  go_wp2
  go_loopg [3] k (fun kq v3 w'=>∃ (x3_1:Int),v3=.int .i64 x3_1∧Aside0 (spec_l2BodyOk.l0 kq l0 x3_1=some r)∧Aside0 (kq≤k)∧Drawn0 w w')
  case atStart=>exact ⟨(0),(by first|rfl|(simp;done)|(simp [*];done)),H',⟨Nat.le_refl _⟩,by repeat (first|exact Drawn0.refl _|apply Drawn0.step)⟩
  case round =>
    clear H'
    try clear c1
    obtain ⟨x3_1,rfl,HA,HK1,⟨m1,rfl⟩⟩:=hrel
    cases gk with
    | zero=>exact absurd HA.out (by simp [spec_l2BodyOk.l0])
    | succ k1 =>
      have H:=HA.out
      clear HA
      simp only [spec_l2BodyOk.l0] at H
      by_cases c2:x3_1 < (l0.length:Int)
      · rw [if_pos c2] at H
        have c2b0:decide (x3_1 < (l0.length:Int))=true:=decide_eq_true c2
        clear c2
        by_cases c3:0≤x3_1
        · rw [if_pos c3] at H
          have c3b0:decide (0≤x3_1)=true:=decide_eq_true c3
          clear c3
          replace H:=Option.bind_eq_some_iff.mp H
          obtain ⟨t102,A40,H⟩:=H
          replace H:(if t102=true then (spec_l2BodyOk.l0 k1 l0 (wrap64 (x3_1+1))) else (some false))=some r:=H
          have A4:=Aside0.mk A40
          clear A40
          by_cases c5:t102=true
          · subst c5
            have H1:(spec_l2BodyOk.l0 k1 l0 (wrap64 (x3_1+1)))=some r:=by rw [if_pos rfl] at H;exact H
            clear H
            have H:=H1
            clear H1
            have H':=Aside0.mk H
            clear H
            have p101:0≤(x3_1:Int):=of_decide_eq_true (by first|(with_reducible assumption)|assumption)
            have q101:x3_1 < (l0.length:Int):=of_decide_eq_true (by first|(with_reducible assumption)|assumption)
            obtain ⟨ad101,e101,hx101_0⟩:=Kd.at_string HR0.out x3_1 p101 q101
            cases e101
            replace p101:=eq_true p101
            replace q101:=eq_true q101
            go_wp2_with (first|((with_reducible refine gate_callee (f:=140) rfl ?_);refine goesL_ (some 14) rfl rfl Tryz.func140 (by kernel_rfl) rfl #[.string (rdOf ByteArray.empty l0 x3_1)] rfl (by (try simp only [List.map_toArray,List.map_cons,List.map_nil]);first|done|rfl|(simp only [List.length_drop,List.length_take];rfl)) ?_;(with_reducible refine (spec_l2LineOk.calls k1 (rdOf ByteArray.empty l0 x3_1) true _ A4.out).mono ?_);rintro e w' ⟨rfl,⟨nd,rfl⟩⟩;refine ⟨_,rfl,?_⟩))
            go_roundg k1
            case measure=>have:=HK1.out;omega
            case rel=>exact ⟨(wrap64 (x3_1+1)),(by first|rfl|(simp;done)|(simp [*];done)),H',⟨by have:=HK1.out;omega⟩,by repeat (first|exact Drawn0.refl _|apply Drawn0.step)⟩
          · replace c5:=Bool.eq_false_iff.mpr c5
            subst c5
            have H1:(some false)=some r:=by rw [if_neg (show ¬ (false=true) by decide)] at H;exact H
            clear H
            have H:=H1
            clear H1
            obtain rfl:=Option.some.inj H
            have p101:0≤(x3_1:Int):=of_decide_eq_true (by first|(with_reducible assumption)|assumption)
            have q101:x3_1 < (l0.length:Int):=of_decide_eq_true (by first|(with_reducible assumption)|assumption)
            obtain ⟨ad101,e101,hx101_0⟩:=Kd.at_string HR0.out x3_1 p101 q101
            cases e101
            replace p101:=eq_true p101
            replace q101:=eq_true q101
            go_wp2_with (first|((with_reducible refine gate_callee (f:=140) rfl ?_);refine goesL_ (some 14) rfl rfl Tryz.func140 (by kernel_rfl) rfl #[.string (rdOf ByteArray.empty l0 x3_1)] rfl (by (try simp only [List.map_toArray,List.map_cons,List.map_nil]);first|done|rfl|(simp only [List.length_drop,List.length_take];rfl)) ?_;(with_reducible refine (spec_l2LineOk.calls k1 (rdOf ByteArray.empty l0 x3_1) false _ A4.out).mono ?_);rintro e w' ⟨rfl,⟨nd,rfl⟩⟩;refine ⟨_,rfl,?_⟩))
            go_ret
            exact ⟨by first|rfl|(simp;done)|(simp [*];done),by repeat (first|exact Drawn0.refl _|apply Drawn0.step)⟩
        · rw [if_neg c3] at H
          exact absurd H (by simp)
      · rw [if_neg c2] at H
        have c2b0:decide (x3_1 < (l0.length:Int))=false:=decide_eq_false c2
        clear c2
        obtain rfl:=Option.some.inj H
        go_wp2
        go_ret
        exact ⟨by first|rfl|(simp;done)|(simp [*];done),by repeat (first|exact Drawn0.refl _|apply Drawn0.step)⟩
end Go.Proofs.YtjdpdkdhfnpcgaaGreatDoor.Q
