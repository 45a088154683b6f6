/- Of a text of ours what this claim needs. -/
import Derived.Test.YtjdpdkdhfnpcgaaGreatDoorZzFnExactNotePutWQ0
import Derived.Test.YtjdpdkdhfnpcgaaGreatDoorZzFnExactNotePutWQ3
namespace Go.Proofs.YtjdpdkdhfnpcgaaGreatDoor.Q
open Go.RowKit Go.Proofs.YtjdpdkdhfnpcgaaGreatDoorW.PrintWords Go.Proofs.YtjdpdkdhfnpcgaaGreatDoorW.PrintLast Go.Proofs.YtjdpdkdhfnpcgaaGreatDoorW.PrintMore
attribute [local go_sem] max2_int min2_int max_two min_two max_three min_three max_four min_four
set_option linter.unusedVariables false
set_option linter.unusedSimpArgs false
def spec_l1Word.l0:Nat→ByteArray→Int→Option (Bool)
  | 0,_,_=>none
  | k+1,x0,x3=>if x3 < (x0.size:Int) then (if 0≤x3 then (if (bt x0 x3) < 97 then (if (bt x0 x3) < 48 then (some false) else (if (bt x0 x3) > 57 then (some false) else (spec_l1Word.l0 k x0 (wrap64 (x3+1))))) else (if (bt x0 x3) > 122 then (if (bt x0 x3) < 48 then (some false) else (if (bt x0 x3) > 57 then (some false) else (spec_l1Word.l0 k x0 (wrap64 (x3+1))))) else (spec_l1Word.l0 k x0 (wrap64 (x3+1))))) else (none)) else ((spec_l1In.f (x0.size:Int) 1 8).bind fun t101=>(some t101))
def spec_l1Word.f (k:Nat) (a0:ByteArray):Option (Bool):=spec_l1Word.l0 k a0 0
set_option maxHeartbeats 8000000 in
set_option maxRecDepth 100000 in
theorem spec_l1Word.calls (k:Nat) (a0:ByteArray) (r:Bool) (w:World) (h:spec_l1Word.f k a0=some r) :
    Calls Tryz.prog 108 #[.string a0] w fun e w'=>e=.returned (.bool r)∧Drawn0 w w':=by
  have H:(spec_l1Word.l0 k a0 0)=some r:=h
  clear h
  have H':=Aside0.mk H
  clear H
  go_enter Tryz.func108,Tryz.ntmps108
  go_wp2
  go_loopg [3] k (fun kq v3 w'=>∃ (x3_1:Int),v3=.int .i64 x3_1∧Aside0 (spec_l1Word.l0 kq a0 x3_1=some r)∧Aside0 (kq≤k)∧Drawn0 w w')
  case atStart=>exact ⟨(0),(by first|rfl|(simp;done)|(simp [*];done)),H',⟨Nat.le_refl _⟩,by repeat (first|exact Drawn0.refl _|apply Drawn0.step)⟩
  case round =>
    clear H'
    try clear c1
    obtain ⟨x3_1,rfl,HA,HK1,⟨m1,rfl⟩⟩:=hrel
    cases gk with
    | zero=>exact absurd HA.out (by simp [spec_l1Word.l0])
    | succ k1 =>
      have H:=HA.out
      clear HA
      simp only [spec_l1Word.l0] at H
      by_cases c2:x3_1 < (a0.size:Int)
      · rw [if_pos c2] at H
        have c2b0:decide (x3_1 < (a0.size:Int))=true:=decide_eq_true c2
        clear c2
        by_cases c3:0≤x3_1
        · rw [if_pos c3] at H
          have c3b0:decide (0≤x3_1)=true:=decide_eq_true c3
          clear c3
          by_cases c5:(bt a0 x3_1) < 97
          · rw [if_pos c5] at H
            have c5b0:decide ((bt a0 x3_1) < 97)=true:=decide_eq_true c5
            clear c5
            by_cases c7:(bt a0 x3_1) < 48
            · rw [if_pos c7] at H
              have c7b0:decide ((bt a0 x3_1) < 48)=true:=decide_eq_true c7
              clear c7
              obtain rfl:=Option.some.inj H
              have p4:0≤(x3_1:Int):=of_decide_eq_true (by first|(with_reducible assumption)|assumption)
              have q4:x3_1 < (a0.size:Int):=of_decide_eq_true (by first|(with_reducible assumption)|assumption)
              have hx4:=bt_at a0 x3_1
              replace p4:=eq_true p4
              replace q4:=eq_true q4
              have p6:0≤(x3_1:Int):=of_decide_eq_true (by first|(with_reducible assumption)|assumption)
              have q6:x3_1 < (a0.size:Int):=of_decide_eq_true (by first|(with_reducible assumption)|assumption)
              have hx6:=bt_at a0 x3_1
              replace p6:=eq_true p6
              replace q6:=eq_true q6
              go_wp2
              go_ret
              exact ⟨by first|rfl|(simp;done)|(simp [*];done),by repeat (first|exact Drawn0.refl _|apply Drawn0.step)⟩
            · rw [if_neg c7] at H
              have c7b0:decide ((bt a0 x3_1) < 48)=false:=decide_eq_false c7
              clear c7
              by_cases c9:(bt a0 x3_1) > 57
              · rw [if_pos c9] at H
                have c9b0:decide (57 < (bt a0 x3_1))=true:=decide_eq_true c9
                clear c9
                obtain rfl:=Option.some.inj H
                have p4:0≤(x3_1:Int):=of_decide_eq_true (by first|(with_reducible assumption)|assumption)
                have q4:x3_1 < (a0.size:Int):=of_decide_eq_true (by first|(with_reducible assumption)|assumption)
                have hx4:=bt_at a0 x3_1
                replace p4:=eq_true p4
                replace q4:=eq_true q4
                have p6:0≤(x3_1:Int):=of_decide_eq_true (by first|(with_reducible assumption)|assumption)
                have q6:x3_1 < (a0.size:Int):=of_decide_eq_true (by first|(with_reducible assumption)|assumption)
                have hx6:=bt_at a0 x3_1
                replace p6:=eq_true p6
                replace q6:=eq_true q6
                have p8:0≤(x3_1:Int):=of_decide_eq_true (by first|(with_reducible assumption)|assumption)
                have q8:x3_1 < (a0.size:Int):=of_decide_eq_true (by first|(with_reducible assumption)|assumption)
                have hx8:=bt_at a0 x3_1
                replace p8:=eq_true p8
                replace q8:=eq_true q8
                go_wp2
                go_ret
                exact ⟨by first|rfl|(simp;done)|(simp [*];done),by repeat (first|exact Drawn0.refl _|apply Drawn0.step)⟩
              · rw [if_neg c9] at H
                have c9b0:decide (57 < (bt a0 x3_1))=false:=decide_eq_false c9
                clear c9
                have H':=Aside0.mk H
                clear H
                have p4:0≤(x3_1:Int):=of_decide_eq_true (by first|(with_reducible assumption)|assumption)
                have q4:x3_1 < (a0.size:Int):=of_decide_eq_true (by first|(with_reducible assumption)|assumption)
                have hx4:=bt_at a0 x3_1
                replace p4:=eq_true p4
                replace q4:=eq_true q4
                have p6:0≤(x3_1:Int):=of_decide_eq_true (by first|(with_reducible assumption)|assumption)
                have q6:x3_1 < (a0.size:Int):=of_decide_eq_true (by first|(with_reducible assumption)|assumption)
                have hx6:=bt_at a0 x3_1
                replace p6:=eq_true p6
                replace q6:=eq_true q6
                have p8:0≤(x3_1:Int):=of_decide_eq_true (by first|(with_reducible assumption)|assumption)
                have q8:x3_1 < (a0.size:Int):=of_decide_eq_true (by first|(with_reducible assumption)|assumption)
                have hx8:=bt_at a0 x3_1
                replace p8:=eq_true p8
                replace q8:=eq_true q8
                go_wp2
                go_roundg k1
                case measure=>have:=HK1.out;omega
                case rel=>exact ⟨(wrap64 (x3_1+1)),(by first|rfl|(simp;done)|(simp [*];done)),H',⟨by have:=HK1.out;omega⟩,by repeat (first|exact Drawn0.refl _|apply Drawn0.step)⟩
          · rw [if_neg c5] at H
            have c5b0:decide ((bt a0 x3_1) < 97)=false:=decide_eq_false c5
            clear c5
            by_cases c11:(bt a0 x3_1) > 122
            · rw [if_pos c11] at H
              have c11b0:decide (122 < (bt a0 x3_1))=true:=decide_eq_true c11
              clear c11
              by_cases c13:(bt a0 x3_1) < 48
              · rw [if_pos c13] at H
                have c13b0:decide ((bt a0 x3_1) < 48)=true:=decide_eq_true c13
                clear c13
                obtain rfl:=Option.some.inj H
                have p4:0≤(x3_1:Int):=of_decide_eq_true (by first|(with_reducible assumption)|assumption)
                have q4:x3_1 < (a0.size:Int):=of_decide_eq_true (by first|(with_reducible assumption)|assumption)
                have hx4:=bt_at a0 x3_1
                replace p4:=eq_true p4
                replace q4:=eq_true q4
                have p10:0≤(x3_1:Int):=of_decide_eq_true (by first|(with_reducible assumption)|assumption)
                have q10:x3_1 < (a0.size:Int):=of_decide_eq_true (by first|(with_reducible assumption)|assumption)
                have hx10:=bt_at a0 x3_1
                replace p10:=eq_true p10
                replace q10:=eq_true q10
                have p12:0≤(x3_1:Int):=of_decide_eq_true (by first|(with_reducible assumption)|assumption)
                have q12:x3_1 < (a0.size:Int):=of_decide_eq_true (by first|(with_reducible assumption)|assumption)
                have hx12:=bt_at a0 x3_1
                replace p12:=eq_true p12
                replace q12:=eq_true q12
                go_wp2
                go_ret
                exact ⟨by first|rfl|(simp;done)|(simp [*];done),by repeat (first|exact Drawn0.refl _|apply Drawn0.step)⟩
              · rw [if_neg c13] at H
                have c13b0:decide ((bt a0 x3_1) < 48)=false:=decide_eq_false c13
                clear c13
                by_cases c15:(bt a0 x3_1) > 57
                · rw [if_pos c15] at H
                  have c15b0:decide (57 < (bt a0 x3_1))=true:=decide_eq_true c15
                  clear c15
                  obtain rfl:=Option.some.inj H
                  have p4:0≤(x3_1:Int):=of_decide_eq_true (by first|(with_reducible assumption)|assumption)
                  have q4:x3_1 < (a0.size:Int):=of_decide_eq_true (by first|(with_reducible assumption)|assumption)
                  have hx4:=bt_at a0 x3_1
                  replace p4:=eq_true p4
                  replace q4:=eq_true q4
                  have p10:0≤(x3_1:Int):=of_decide_eq_true (by first|(with_reducible assumption)|assumption)
                  have q10:x3_1 < (a0.size:Int):=of_decide_eq_true (by first|(with_reducible assumption)|assumption)
                  have hx10:=bt_at a0 x3_1
                  replace p10:=eq_true p10
                  replace q10:=eq_true q10
                  have p12:0≤(x3_1:Int):=of_decide_eq_true (by first|(with_reducible assumption)|assumption)
                  have q12:x3_1 < (a0.size:Int):=of_decide_eq_true (by first|(with_reducible assumption)|assumption)
                  have hx12:=bt_at a0 x3_1
                  replace p12:=eq_true p12
                  replace q12:=eq_true q12
                  have p14:0≤(x3_1:Int):=of_decide_eq_true (by first|(with_reducible assumption)|assumption)
                  have q14:x3_1 < (a0.size:Int):=of_decide_eq_true (by first|(with_reducible assumption)|assumption)
                  have hx14:=bt_at a0 x3_1
                  replace p14:=eq_true p14
                  replace q14:=eq_true q14
                  go_wp2
                  go_ret
                  exact ⟨by first|rfl|(simp;done)|(simp [*];done),by repeat (first|exact Drawn0.refl _|apply Drawn0.step)⟩
                · rw [if_neg c15] at H
                  have c15b0:decide (57 < (bt a0 x3_1))=false:=decide_eq_false c15
                  clear c15
                  have H':=Aside0.mk H
                  clear H
                  have p4:0≤(x3_1:Int):=of_decide_eq_true (by first|(with_reducible assumption)|assumption)
                  have q4:x3_1 < (a0.size:Int):=of_decide_eq_true (by first|(with_reducible assumption)|assumption)
                  have hx4:=bt_at a0 x3_1
                  replace p4:=eq_true p4
                  replace q4:=eq_true q4
                  have p10:0≤(x3_1:Int):=of_decide_eq_true (by first|(with_reducible assumption)|assumption)
                  have q10:x3_1 < (a0.size:Int):=of_decide_eq_true (by first|(with_reducible assumption)|assumption)
                  have hx10:=bt_at a0 x3_1
                  replace p10:=eq_true p10
                  replace q10:=eq_true q10
                  have p12:0≤(x3_1:Int):=of_decide_eq_true (by first|(with_reducible assumption)|assumption)
                  have q12:x3_1 < (a0.size:Int):=of_decide_eq_true (by first|(with_reducible assumption)|assumption)
                  have hx12:=bt_at a0 x3_1
                  replace p12:=eq_true p12
                  replace q12:=eq_true q12
                  have p14:0≤(x3_1:Int):=of_decide_eq_true (by first|(with_reducible assumption)|assumption)
                  have q14:x3_1 < (a0.size:Int):=of_decide_eq_true (by first|(with_reducible assumption)|assumption)
                  have hx14:=bt_at a0 x3_1
                  replace p14:=eq_true p14
                  replace q14:=eq_true q14
                  go_wp2
                  go_roundg k1
                  case measure=>have:=HK1.out;omega
                  case rel=>exact ⟨(wrap64 (x3_1+1)),(by first|rfl|(simp;done)|(simp [*];done)),H',⟨by have:=HK1.out;omega⟩,by repeat (first|exact Drawn0.refl _|apply Drawn0.step)⟩
            · rw [if_neg c11] at H
              have c11b0:decide (122 < (bt a0 x3_1))=false:=decide_eq_false c11
              clear c11
              have H':=Aside0.mk H
              clear H
              have p4:0≤(x3_1:Int):=of_decide_eq_true (by first|(with_reducible assumption)|assumption)
              have q4:x3_1 < (a0.size:Int):=of_decide_eq_true (by first|(with_reducible assumption)|assumption)
              have hx4:=bt_at a0 x3_1
              replace p4:=eq_true p4
              replace q4:=eq_true q4
              have p10:0≤(x3_1:Int):=of_decide_eq_true (by first|(with_reducible assumption)|assumption)
              have q10:x3_1 < (a0.size:Int):=of_decide_eq_true (by first|(with_reducible assumption)|assumption)
              have hx10:=bt_at a0 x3_1
              replace p10:=eq_true p10
              replace q10:=eq_true q10
              go_wp2
              go_roundg k1
              case measure=>have:=HK1.out;omega
              case rel=>exact ⟨(wrap64 (x3_1+1)),(by first|rfl|(simp;done)|(simp [*];done)),H',⟨by have:=HK1.out;omega⟩,by repeat (first|exact Drawn0.refl _|apply Drawn0.step)⟩
        · rw [if_neg c3] at H
          exact absurd H (by simp)
      · rw [if_neg c2] at H
        have c2b0:decide (x3_1 < (a0.size:Int))=false:=decide_eq_false c2
        clear c2
        replace H:=Option.bind_eq_some_iff.mp H
        obtain ⟨t101,A160,H⟩:=H
        replace H:(some t101)=some r:=H
        have A16:=Aside0.mk A160
        clear A160
        obtain rfl:=Option.some.inj H
        go_wp2_with (first|((with_reducible refine gate_callee (f:=58) rfl ?_);refine goesL_ (some 34) rfl rfl Tryz.func58 (by kernel_rfl) rfl #[.int .i64 (a0.size:Int),.int .i64 1,.int .i64 8] rfl (by (try simp only [List.map_toArray,List.map_cons,List.map_nil]);first|done|rfl|(simp only [List.length_drop,List.length_take];rfl)) ?_;(with_reducible refine (spec_l1In.calls (a0.size:Int) 1 8 t101 _ A16.out).mono ?_);rintro e w' ⟨rfl,⟨nd,rfl⟩⟩;refine ⟨_,rfl,?_⟩))
        go_ret
        exact ⟨by first|rfl|(simp;done)|(simp [*];done),by repeat (first|exact Drawn0.refl _|apply Drawn0.step)⟩
mutual
def spec_l1Cut.l0:Nat→ByteArray→Int→Int→List ByteArray→Int→Int→Option (List ByteArray)
  | 0,_,_,_,_,_,_=>none
  | k+1,x0,x1,x2,x7,x8,x9=>if x9 < (x0.size:Int) then (spec_l1Cut.j1 k x0 x1 x2 x7 x8 x9 (decide ((x7.length:Int) < x2))) else (spec_l1Cut.j1 k x0 x1 x2 x7 x8 x9 false)
def spec_l1Cut.j1:Nat→ByteArray→Int→Int→List ByteArray→Int→Int→Bool→Option (List ByteArray)
  | 0,_,_,_,_,_,_,_=>none
  | k+1,x0,x1,x2,x7,x8,x9,x20=>if x20=true then (if 0≤x9 then (if x9 < (x0.size:Int) then (if (bt x0 x9)=x1 then (if 0≤x8 then (if x8≤x9 then (if x9≤(x0.size:Int) then (if x7.length < 8796093022208 then (spec_l1Cut.l0 k x0 x1 x2 (x7++[x0.extract (x8:Int).toNat (x9:Int).toNat]) (wrap64 (x9+1)) (wrap64 (x9+1))) else (none)) else (none)) else (none)) else (none)) else (spec_l1Cut.l0 k x0 x1 x2 x7 x8 (wrap64 (x9+1)))) else (none)) else (none)) else (if 0≤x8 then (if x8≤(x0.size:Int) then (if x7.length < 8796093022208 then (some (x7++[x0.extract (x8:Int).toNat x0.size])) else (none)) else (none)) else (none))
end
def spec_l1Cut.f (k:Nat) (a0:ByteArray) (a1:Int) (a2:Int):Option (List ByteArray):=spec_l1Cut.l0 k a0 a1 a2 (([]:List ByteArray)) 0 0
set_option maxHeartbeats 8000000 in
set_option maxRecDepth 100000 in
theorem spec_l1Cut.calls (k:Nat) (a0:ByteArray) (a1:Int) (a2:Int) (r:List ByteArray) (w:World) (h:spec_l1Cut.f k a0 a1 a2=some r) :
    Calls Tryz.prog 78 #[.string a0,.int .u8 a1,.int .i64 a2] w fun e w'=>∃ v0_:Value,e=.returned (v0_)∧Kd.R Kd.string 9 w' w.heap.size (fun _=>True) v0_ r∧Below w.heap.size w w':=by
  have HB:=Aside0.mk (Below.refl w.heap.size w)
  have H:(spec_l1Cut.l0 k a0 a1 a2 (([]:List ByteArray)) 0 0)=some r:=h
  clear h
  obtain ⟨y101,hy101⟩:∃ y_:List ByteArray,y_=(([]:List ByteArray)):=⟨_,rfl⟩
  replace H:(spec_l1Cut.l0 k a0 a1 a2 y101 0 0)=some r:=by first|(rw [hy101];with_reducible exact H)|(have H2_:=(Option.bind_some _ _).symm.trans H;rw [hy101];with_reducible exact H2_)|(have H2_:=(Option.bind_some _ _).symm.trans H;with_reducible exact H2_)|with_reducible exact H|(rw [hy101];exact H)|exact H
  have Ny101:=Aside0.mk hy101
  clear hy101
  have H':=Aside0.mk H
  clear H
  go_enter Tryz.func78,Tryz.ntmps78
  go_wp2_with (first|((with_reducible refine gate_dst (N:=10) rfl ?_);(try (refine gate_guard (by rfl) ?_;dsimp only));refine Kd.R_lit Kd.string _ 9 ?hg (N:=10) ?hd (xs:=([]:List ByteArray)) (inner:=[]) (ok:=fun _=>True) (okp:=fun _=>True) ?hr ?hp (fun _ hk=>hk) trivial (Below.refl _ _) (Nat.le_refl _) (by simp) ?_;(case hd=>rfl);(case hg=>rfl);(case hr=>first|(go_simp;done)|(go_simp;rfl));(case hp=>exact (Reps.none _ _));intro v102 w4 ho5 hb hg_ hnew_;clear hg_ hnew_;(first|rw [← Ny101.out] at ho5|(simp only [Int.reduceToNat] at ho5;rw [← Ny101.out] at ho5));have n0_:=Aside0.mk (Kd.R_lower ho5 (below_size (by repeat (first|(with_reducible first|exact HB.out|apply below_alloc|apply pw_below_drewN|apply below_drew1)|exact HB.out))));have n1_:=Aside0.mk (below_step (by repeat (first|(with_reducible first|exact HB.out|apply below_alloc|apply pw_below_drewN|apply below_drew1)|exact HB.out)) hb);clear HB;have HO103:=n0_;have HB:=n1_;clear n0_ n1_;clear hb ho5))
  go_loopg [7,8,9] k (fun kq v7 v8 v9 w'=>∃ (x7_1:List ByteArray) (x8_1:Int) (x9_1:Int),v8=.int .i64 x8_1∧v9=.int .i64 x9_1∧Aside0 (spec_l1Cut.l0 kq a0 a1 a2 x7_1 x8_1 x9_1=some r)∧Aside0 (kq≤k)∧Aside0 (Kd.R Kd.string 9 w' w.heap.size (fun _=>True) v7 x7_1)∧Aside0 (Below w.heap.size w w'))
  case atStart=>exact ⟨(y101),(0),(0),(by first|rfl|(simp;done)|(simp [*];done)),(by first|rfl|(simp;done)|(simp [*];done)),H',⟨Nat.le_refl _⟩,⟨by (with_reducible repeat (first|apply Kd.R_alloc|apply Kd.R_drewN|apply Kd.R_drew));exact HO103.out⟩,⟨by repeat (first|(with_reducible first|exact HB.out|apply below_alloc|apply pw_below_drewN|apply below_drew1)|exact HB.out)⟩⟩
  case round =>
    clear H'
    try clear p2
    obtain ⟨x7_1,x8_1,x9_1,rfl,rfl,HA,HK1,HO_7,HB⟩:=hrel
    cases gk with
    | zero=>exact absurd HA.out (by simp [spec_l1Cut.l0])
    | succ k1 =>
      have H:=HA.out
      clear HA
      simp only [spec_l1Cut.l0] at H
      have HC6:=Aside0.mk H
      clear H
      go_upto_region 4 with (fail)
      go_cut [20] (fun v20 wc=>∃ (kq:Nat) (x20_5:Bool),v20=.bool x20_5∧Aside0 (spec_l1Cut.j1 kq a0 a1 a2 x7_1 x8_1 x9_1 x20_5=some r)∧Aside0 (kq≤k1)∧Aside0 (Kd.R Kd.string 9 wc w.heap.size (fun _=>True) u7 x7_1)∧Aside0 (Below w.heap.size w wc))
      case first =>
        have H:=HC6.out
        clear HC6
        by_cases c7:x9_1 < (a0.size:Int)
        · rw [if_pos c7] at H
          have c7b0:decide (x9_1 < (a0.size:Int))=true:=decide_eq_true c7
          clear c7
          (first|rw [c7b0]|(simp only [i64_w,i32_w];rw [c7b0])|skip)
          have H':=Aside0.mk H
          clear H
          obtain ⟨Ao8,co8,eo8⟩:=Kd.R_slice HO_7.out
          subst eo8
          go_wp2
          go_meet
          case rel=>exact ⟨_,(decide ((x7_1.length:Int) < a2)),(by first|rfl|(simp;done)|(simp [*];done)),H',⟨by have:=HK1.out;first|omega|exact Nat.le_refl _⟩,⟨by (with_reducible repeat (first|apply Kd.R_alloc|apply Kd.R_drewN|apply Kd.R_drew));exact HO_7.out⟩,⟨by repeat (first|(with_reducible first|exact HB.out|apply below_alloc|apply pw_below_drewN|apply below_drew1)|exact HB.out)⟩⟩
        · rw [if_neg c7] at H
          have c7b0:decide (x9_1 < (a0.size:Int))=false:=decide_eq_false c7
          clear c7
          (first|rw [c7b0]|(simp only [i64_w,i32_w];rw [c7b0])|skip)
          have H':=Aside0.mk H
          clear H
          go_wp2
          go_meet
          case rel=>exact ⟨_,(false),(by first|rfl|(simp;done)|(simp [*];done)),H',⟨by have:=HK1.out;first|omega|exact Nat.le_refl _⟩,⟨by (with_reducible repeat (first|apply Kd.R_alloc|apply Kd.R_drewN|apply Kd.R_drew));exact HO_7.out⟩,⟨by repeat (first|(with_reducible first|exact HB.out|apply below_alloc|apply pw_below_drewN|apply below_drew1)|exact HB.out)⟩⟩
      case rest =>
        clear HC6
        try clear p2
        try clear c7
        try clear c7b0
        try clear p2
        obtain ⟨kq,x20_5,rfl,HA,HJ5,HO_7,HB⟩:=hcut
        cases kq with
        | zero=>exact absurd HA.out (by simp [spec_l1Cut.j1])
        | succ kj5 =>
          have H:=HA.out
          clear HA
          simp only [spec_l1Cut.j1] at H
          by_cases c9:x20_5=true
          · subst c9
            have H1:(if 0≤x9_1 then (if x9_1 < (a0.size:Int) then (if (bt a0 x9_1)=a1 then (if 0≤x8_1 then (if x8_1≤x9_1 then (if x9_1≤(a0.size:Int) then (if x7_1.length < 8796093022208 then (spec_l1Cut.l0 kj5 a0 a1 a2 (x7_1++[a0.extract (x8_1:Int).toNat (x9_1:Int).toNat]) (wrap64 (x9_1+1)) (wrap64 (x9_1+1))) else (none)) else (none)) else (none)) else (none)) else (spec_l1Cut.l0 kj5 a0 a1 a2 x7_1 x8_1 (wrap64 (x9_1+1)))) else (none)) else (none))=some r:=by rw [if_pos rfl] at H;exact H
            clear H
            have H:=H1
            clear H1
            by_cases c10:0≤x9_1
            · rw [if_pos c10] at H
              have c10b0:decide (0≤x9_1)=true:=decide_eq_true c10
              clear c10
              by_cases c11:x9_1 < (a0.size:Int)
              · rw [if_pos c11] at H
                have c11b0:decide (x9_1 < (a0.size:Int))=true:=decide_eq_true c11
                clear c11
                by_cases c13:(bt a0 x9_1)=a1
                · rw [if_pos c13] at H
                  have c13b0:((bt a0 x9_1)==a1)=true:=beq_iff_eq.mpr c13
                  have c13b1:((bt a0 x9_1) != a1)=false:=bne_eq_false_iff_eq.mpr c13
                  clear c13
                  by_cases c14:0≤x8_1
                  · rw [if_pos c14] at H
                    have c14b0:=eq_true c14
                    have c14b1:decide (0≤x8_1)=true:=decide_eq_true c14
                    clear c14
                    by_cases c15:x8_1≤x9_1
                    · rw [if_pos c15] at H
                      have c15b0:=eq_true c15
                      have c15b1:decide (x8_1≤x9_1)=true:=decide_eq_true c15
                      clear c15
                      by_cases c16:x9_1≤(a0.size:Int)
                      · rw [if_pos c16] at H
                        have c16b0:=eq_true c16
                        have c16b1:decide (x9_1≤(a0.size:Int))=true:=decide_eq_true c16
                        clear c16
                        by_cases c17:x7_1.length < 8796093022208
                        · rw [if_pos c17] at H
                          have LMc17:=Aside0.mk c17
                          clear c17
                          obtain ⟨y104,hy104⟩:∃ y_:List ByteArray,y_=(x7_1++[a0.extract (x8_1:Int).toNat (x9_1:Int).toNat]):=⟨_,rfl⟩
                          replace H:(spec_l1Cut.l0 kj5 a0 a1 a2 y104 (wrap64 (x9_1+1)) (wrap64 (x9_1+1)))=some r:=by first|(rw [hy104];with_reducible exact H)|(have H2_:=(Option.bind_some _ _).symm.trans H;rw [hy104];with_reducible exact H2_)|(have H2_:=(Option.bind_some _ _).symm.trans H;with_reducible exact H2_)|with_reducible exact H|(rw [hy104];exact H)|exact H
                          have Ny104:=Aside0.mk hy104
                          clear hy104
                          have H':=Aside0.mk H
                          clear H
                          have p12:0≤(x9_1:Int):=of_decide_eq_true (by first|(with_reducible assumption)|assumption)
                          have q12:x9_1 < (a0.size:Int):=of_decide_eq_true (by first|(with_reducible assumption)|assumption)
                          have hx12:=bt_at a0 x9_1
                          replace p12:=eq_true p12
                          replace q12:=eq_true q12
                          go_wp2_with (first|((with_reducible refine gate_builtin (b:=.append) (xs:=#[.tmp 28,.tmp 33]) rfl ?_);(try (refine gate_guard (by rfl) ?_;dsimp only));at_builtin;refine Kd.R_append Kd.string (w0:=w) w.heap.size rfl (.tmp 28) (.tmp 33) 26 9 (.string ⟨#[]⟩) 16 rfl Tryz.underlying26 info9 rfl (by decide) (by omega) u7 x7_1 (a0.extract (x8_1:Int).toNat (x9_1:Int).toNat) [.string (a0.extract (x8_1:Int).toNat (x9_1:Int).toNat)] (fun _=>True) (fun _=>False) rfl rfl ?aP (fun _ hk=>hk.elim) ?aF ?aO ?aB ?aS ?aL ?_;(case aP=>exact rfl);(case aB=>exact (by repeat (first|(with_reducible first|exact HB.out|apply below_alloc|apply pw_below_drewN|apply below_drew1)|exact HB.out)));(case aF=>exact (fun _ _=>trivial));(case aO=>exact (by (with_reducible repeat (first|apply Kd.R_alloc|apply Kd.R_drewN|apply Kd.R_drew));exact HO_7.out));(case aS=>exact (below_size (by repeat (first|(with_reducible first|exact HB.out|apply below_alloc|apply pw_below_drewN|apply below_drew1)|exact HB.out))));(case aL=>have:=LMc17.out;omega);intro v105 w18 ho hb hg hat;rw [← Ny104.out] at ho;have n0_:=Aside0.mk (hb);have n1_:=Aside0.mk (ho);clear HB;clear HO_7;have HB:=n0_;have HO106:=n1_;clear n0_ n1_;clear ho hb hg hat))
                          go_roundg kj5
                          case measure=>have:=HK1.out;have:=HJ5.out;omega
                          case rel=>exact ⟨(y104),(wrap64 (x9_1+1)),(wrap64 (x9_1+1)),(by first|rfl|(simp;done)|(simp [*];done)),(by first|rfl|(simp;done)|(simp [*];done)),H',⟨by have:=HK1.out;have:=HJ5.out;omega⟩,⟨by (with_reducible repeat (first|apply Kd.R_alloc|apply Kd.R_drewN|apply Kd.R_drew));exact HO106.out⟩,⟨by repeat (first|(with_reducible first|exact HB.out|apply below_alloc|apply pw_below_drewN|apply below_drew1)|exact HB.out)⟩⟩
                        · rw [if_neg c17] at H
                          exact absurd H (by simp)
                      · rw [if_neg c16] at H
                        exact absurd H (by simp)
                    · rw [if_neg c15] at H
                      exact absurd H (by simp)
                  · rw [if_neg c14] at H
                    exact absurd H (by simp)
                · rw [if_neg c13] at H
                  have c13b0:((bt a0 x9_1)==a1)=false:=beq_eq_false_iff_ne.mpr c13
                  have c13b1:((bt a0 x9_1) != a1)=true:=bne_iff_ne.mpr c13
                  have H':=Aside0.mk H
                  clear H
                  have p12:0≤(x9_1:Int):=of_decide_eq_true (by first|(with_reducible assumption)|assumption)
                  have q12:x9_1 < (a0.size:Int):=of_decide_eq_true (by first|(with_reducible assumption)|assumption)
                  have hx12:=bt_at a0 x9_1
                  replace p12:=eq_true p12
                  replace q12:=eq_true q12
                  go_wp2
                  go_roundg kj5
                  case measure=>have:=HK1.out;have:=HJ5.out;omega
                  case rel=>exact ⟨(x7_1),(x8_1),(wrap64 (x9_1+1)),(by first|rfl|(simp;done)|(simp [*];done)),(by first|rfl|(simp;done)|(simp [*];done)),H',⟨by have:=HK1.out;have:=HJ5.out;omega⟩,⟨by (with_reducible repeat (first|apply Kd.R_alloc|apply Kd.R_drewN|apply Kd.R_drew));exact HO_7.out⟩,⟨by repeat (first|(with_reducible first|exact HB.out|apply below_alloc|apply pw_below_drewN|apply below_drew1)|exact HB.out)⟩⟩
              · rw [if_neg c11] at H
                exact absurd H (by simp)
            · rw [if_neg c10] at H
              exact absurd H (by simp)
          · replace c9:=Bool.eq_false_iff.mpr c9
            subst c9
            have H1:(if 0≤x8_1 then (if x8_1≤(a0.size:Int) then (if x7_1.length < 8796093022208 then (some (x7_1++[a0.extract (x8_1:Int).toNat a0.size])) else (none)) else (none)) else (none))=some r:=by rw [if_neg (show ¬ (false=true) by decide)] at H;exact H
            clear H
            have H:=H1
            clear H1
            by_cases c19:0≤x8_1
            · rw [if_pos c19] at H
              have c19b0:=eq_true c19
              have c19b1:decide (0≤x8_1)=true:=decide_eq_true c19
              clear c19
              by_cases c20:x8_1≤(a0.size:Int)
              · rw [if_pos c20] at H
                have c20b0:=eq_true c20
                have c20b1:decide (x8_1≤(a0.size:Int))=true:=decide_eq_true c20
                clear c20
                by_cases c21:x7_1.length < 8796093022208
                · rw [if_pos c21] at H
                  have LMc21:=Aside0.mk c21
                  clear c21
                  obtain ⟨y107,hy107⟩:∃ y_:List ByteArray,y_=(x7_1++[a0.extract (x8_1:Int).toNat a0.size]):=⟨_,rfl⟩
                  replace H:(some y107)=some r:=by first|(rw [hy107];with_reducible exact H)|(have H2_:=(Option.bind_some _ _).symm.trans H;rw [hy107];with_reducible exact H2_)|(have H2_:=(Option.bind_some _ _).symm.trans H;with_reducible exact H2_)|with_reducible exact H|(rw [hy107];exact H)|exact H
                  have Ny107:=Aside0.mk hy107
                  clear hy107
                  obtain rfl:=Option.some.inj H
                  go_wp2_with (first|((with_reducible refine gate_builtin (b:=.append) (xs:=#[.tmp 37,.tmp 41]) rfl ?_);(try (refine gate_guard (by rfl) ?_;dsimp only));at_builtin;refine Kd.R_append Kd.string (w0:=w) w.heap.size rfl (.tmp 37) (.tmp 41) 26 9 (.string ⟨#[]⟩) 16 rfl Tryz.underlying26 info9 rfl (by decide) (by omega) u7 x7_1 (a0.extract (x8_1:Int).toNat a0.size) [.string (a0.extract (x8_1:Int).toNat a0.size)] (fun _=>True) (fun _=>False) rfl rfl ?aP (fun _ hk=>hk.elim) ?aF ?aO ?aB ?aS ?aL ?_;(case aP=>exact rfl);(case aB=>exact (by repeat (first|(with_reducible first|exact HB.out|apply below_alloc|apply pw_below_drewN|apply below_drew1)|exact HB.out)));(case aF=>exact (fun _ _=>trivial));(case aO=>exact (by (with_reducible repeat (first|apply Kd.R_alloc|apply Kd.R_drewN|apply Kd.R_drew));exact HO_7.out));(case aS=>exact (below_size (by repeat (first|(with_reducible first|exact HB.out|apply below_alloc|apply pw_below_drewN|apply below_drew1)|exact HB.out))));(case aL=>have:=LMc21.out;omega);intro v108 w22 ho hb hg hat;rw [← Ny107.out] at ho;have n0_:=Aside0.mk (hb);have n1_:=Aside0.mk (ho);clear HB;clear HO_7;have HB:=n0_;have HO109:=n1_;clear n0_ n1_;clear ho hb hg hat))
                  go_ret
                  exact ⟨_,by first|rfl|(simp [errW_none,errW_some]<;>rfl)|(simp [*,errW_none,errW_some]<;>rfl),by (with_reducible repeat (first|apply Kd.R_alloc|apply Kd.R_drewN|apply Kd.R_drew));exact HO109.out,by repeat (first|(with_reducible first|exact HB.out|apply below_alloc|apply pw_below_drewN|apply below_drew1)|exact HB.out)⟩
                · rw [if_neg c21] at H
                  exact absurd H (by simp)
              · rw [if_neg c20] at H
                exact absurd H (by simp)
            · rw [if_neg c19] at H
              exact absurd H (by simp)
end Go.Proofs.YtjdpdkdhfnpcgaaGreatDoor.Q
