/- Of a text of ours what this claim needs. -/
import Derived.Test.YthkibaldmjfmmaaDoorZzFnExactCliOkWQ0
import Derived.Test.YthkibaldmjfmmaaDoorZzFnExactCliOkWQ4
namespace Go.Proofs.YthkibaldmjfmmaaDoor.Q
open Go.RowKit Go.Proofs.YthkibaldmjfmmaaDoorW.PrintWords Go.Proofs.YthkibaldmjfmmaaDoorW.PrintLast Go.Proofs.YthkibaldmjfmmaaDoorW.PrintMore
attribute [local go_sem] max2_int min2_int max_two min_two max_three min_three max_four min_four
set_option linter.unusedVariables false
set_option linter.unusedSimpArgs false
mutual
def spec_l1Cut.l0:Nat→ByteArray→Int→Int→List ByteArray→Int→Int→Option (List ByteArray)
  | 0,_,_,_,_,_,_=>none
  | k+1,x0,x1,x2,x7,x8,x9=>if x9 < (x0.size:Int) then (spec_l1Cut.j1 k x0 x1 x2 x7 x8 x9 (decide ((x7.length:Int) < x2))) else (spec_l1Cut.j1 k x0 x1 x2 x7 x8 x9 false)
def spec_l1Cut.j1:Nat→ByteArray→Int→Int→List ByteArray→Int→Int→Bool→Option (List ByteArray)
  | 0,_,_,_,_,_,_,_=>none
  | k+1,x0,x1,x2,x7,x8,x9,x20=>if x20=true then (if 0≤x9 then (if x9 < (x0.size:Int) then (if (bt x0 x9)=x1 then (if 0≤x8 then (if x8≤x9 then (if x9≤(x0.size:Int) then (if x7.length < 8796093022208 then (spec_l1Cut.l0 k x0 x1 x2 (x7++[x0.extract (x8:Int).toNat (x9:Int).toNat]) (wrap64 (x9+1)) (wrap64 (x9+1))) else (none)) else (none)) else (none)) else (none)) else (spec_l1Cut.l0 k x0 x1 x2 x7 x8 (wrap64 (x9+1)))) else (none)) else (none)) else (if 0≤x8 then (if x8≤(x0.size:Int) then (if x7.length < 8796093022208 then (some (x7++[x0.extract (x8:Int).toNat x0.size])) else (none)) else (none)) else (none))
end
def spec_l1Cut.f (k:Nat) (a0:ByteArray) (a1:Int) (a2:Int):Option (List ByteArray):=spec_l1Cut.l0 k a0 a1 a2 (([]:List ByteArray)) 0 0
set_option maxHeartbeats 8000000 in
set_option maxRecDepth 100000 in
theorem spec_l1Cut.calls (k:Nat) (a0:ByteArray) (a1:Int) (a2:Int) (r:List ByteArray) (w:World) (h:spec_l1Cut.f k a0 a1 a2=some r) :
    Calls Tryd.prog 100 #[.string a0,.int .u8 a1,.int .i64 a2] w fun e w'=>∃ v0_:Value,e=.returned (v0_)∧Kd.R Kd.string 9 w' w.heap.size (fun _=>True) v0_ r∧Below w.heap.size w w':=by
  have HB:=Aside0.mk (Below.refl w.heap.size w)
  have H:(spec_l1Cut.l0 k a0 a1 a2 (([]:List ByteArray)) 0 0)=some r:=h
  clear h
  obtain ⟨y101,hy101⟩:∃ y_:List ByteArray,y_=(([]:List ByteArray)):=⟨_,rfl⟩
  replace H:(spec_l1Cut.l0 k a0 a1 a2 y101 0 0)=some r:=by first|(rw [hy101];with_reducible exact H)|(have H2_:=(Option.bind_some _ _).symm.trans H;rw [hy101];with_reducible exact H2_)|(have H2_:=(Option.bind_some _ _).symm.trans H;with_reducible exact H2_)|with_reducible exact H|(rw [hy101];exact H)|exact H
  have Ny101:=Aside0.mk hy101
  clear hy101
  have H':=Aside0.mk H
  clear H
  go_enter Tryd.func100,Tryd.ntmps100
  go_wp2_with (first|((with_reducible refine gate_dst (N:=10) rfl ?_);(try (refine gate_guard (by rfl) ?_;dsimp only));refine Kd.R_lit Kd.string _ 9 ?hg (N:=10) ?hd (xs:=([]:List ByteArray)) (inner:=[]) (ok:=fun _=>True) (okp:=fun _=>True) ?hr ?hp (fun _ hk=>hk) trivial (Below.refl _ _) (Nat.le_refl _) (by simp) ?_;(case hd=>rfl);(case hg=>rfl);(case hr=>first|(go_simp;done)|(go_simp;rfl));(case hp=>exact (Reps.none _ _));intro v102 w4 ho5 hb hg_ hnew_;clear hg_ hnew_;(first|rw [← Ny101.out] at ho5|(simp only [Int.reduceToNat] at ho5;rw [← Ny101.out] at ho5));have n0_:=Aside0.mk (Kd.R_lower ho5 (below_size (by repeat (first|(with_reducible first|exact HB.out|apply below_alloc|apply pw_below_drewN|apply below_drew1)|exact HB.out))));have n1_:=Aside0.mk (below_step (by repeat (first|(with_reducible first|exact HB.out|apply below_alloc|apply pw_below_drewN|apply below_drew1)|exact HB.out)) hb);clear HB;have HO103:=n0_;have HB:=n1_;clear n0_ n1_;clear hb ho5))
  go_loopg [7,8,9] k (fun kq v7 v8 v9 w'=>∃ (x7_1:List ByteArray) (x8_1:Int) (x9_1:Int),v8=.int .i64 x8_1∧v9=.int .i64 x9_1∧Aside0 (spec_l1Cut.l0 kq a0 a1 a2 x7_1 x8_1 x9_1=some r)∧Aside0 (kq≤k)∧Aside0 (Kd.R Kd.string 9 w' w.heap.size (fun _=>True) v7 x7_1)∧Aside0 (Below w.heap.size w w'))
  case atStart=>exact ⟨(y101),(0),(0),(by first|rfl|(simp;done)|(simp [*];done)),(by first|rfl|(simp;done)|(simp [*];done)),H',⟨Nat.le_refl _⟩,⟨by (with_reducible repeat (first|apply Kd.R_alloc|apply Kd.R_drewN|apply Kd.R_drew));exact HO103.out⟩,⟨by repeat (first|(with_reducible first|exact HB.out|apply below_alloc|apply pw_below_drewN|apply below_drew1)|exact HB.out)⟩⟩
  case round =>
    clear H'
    try clear c1
    try clear p2
    obtain ⟨x7_1,x8_1,x9_1,rfl,rfl,HA,HK1,HO_7,HB⟩:=hrel
    cases gk with
    | zero=>exact absurd HA.out (by simp [spec_l1Cut.l0])
    | succ k1 =>
      have H:=HA.out
      clear HA
      simp only [spec_l1Cut.l0] at H
      have HC6:=Aside0.mk H
      clear H
      go_upto_region 4 with (fail)
      go_cut [20] (fun v20 wc=>∃ (kq:Nat) (x20_5:Bool),v20=.bool x20_5∧Aside0 (spec_l1Cut.j1 kq a0 a1 a2 x7_1 x8_1 x9_1 x20_5=some r)∧Aside0 (kq≤k1)∧Aside0 (Kd.R Kd.string 9 wc w.heap.size (fun _=>True) u7 x7_1)∧Aside0 (Below w.heap.size w wc))
      case first =>
        have H:=HC6.out
        clear HC6
        by_cases c7:x9_1 < (a0.size:Int)
        · rw [if_pos c7] at H
          have c7b0:decide (x9_1 < (a0.size:Int))=true:=decide_eq_true c7
          clear c7
          (first|rw [c7b0]|(simp only [i64_w,i32_w];rw [c7b0])|skip)
          have H':=Aside0.mk H
          clear H
          obtain ⟨Ao8,co8,eo8⟩:=Kd.R_slice HO_7.out
          subst eo8
          go_wp2
          go_meet
          case rel=>exact ⟨_,(decide ((x7_1.length:Int) < a2)),(by first|rfl|(simp;done)|(simp [*];done)),H',⟨by have:=HK1.out;first|omega|exact Nat.le_refl _⟩,⟨by (with_reducible repeat (first|apply Kd.R_alloc|apply Kd.R_drewN|apply Kd.R_drew));exact HO_7.out⟩,⟨by repeat (first|(with_reducible first|exact HB.out|apply below_alloc|apply pw_below_drewN|apply below_drew1)|exact HB.out)⟩⟩
        · rw [if_neg c7] at H
          have c7b0:decide (x9_1 < (a0.size:Int))=false:=decide_eq_false c7
          clear c7
          (first|rw [c7b0]|(simp only [i64_w,i32_w];rw [c7b0])|skip)
          have H':=Aside0.mk H
          clear H
          go_wp2
          go_meet
          case rel=>exact ⟨_,(false),(by first|rfl|(simp;done)|(simp [*];done)),H',⟨by have:=HK1.out;first|omega|exact Nat.le_refl _⟩,⟨by (with_reducible repeat (first|apply Kd.R_alloc|apply Kd.R_drewN|apply Kd.R_drew));exact HO_7.out⟩,⟨by repeat (first|(with_reducible first|exact HB.out|apply below_alloc|apply pw_below_drewN|apply below_drew1)|exact HB.out)⟩⟩
      case rest =>
        clear HC6
        try clear c1
        try clear p2
        try clear c7
        try clear c7b0
        try clear p2
        obtain ⟨kq,x20_5,rfl,HA,HJ5,HO_7,HB⟩:=hcut
        cases kq with
        | zero=>exact absurd HA.out (by simp [spec_l1Cut.j1])
        | succ kj5 =>
          have H:=HA.out
          clear HA
          simp only [spec_l1Cut.j1] at H
          by_cases c9:x20_5=true
          · subst c9
            have H1:(if 0≤x9_1 then (if x9_1 < (a0.size:Int) then (if (bt a0 x9_1)=a1 then (if 0≤x8_1 then (if x8_1≤x9_1 then (if x9_1≤(a0.size:Int) then (if x7_1.length < 8796093022208 then (spec_l1Cut.l0 kj5 a0 a1 a2 (x7_1++[a0.extract (x8_1:Int).toNat (x9_1:Int).toNat]) (wrap64 (x9_1+1)) (wrap64 (x9_1+1))) else (none)) else (none)) else (none)) else (none)) else (spec_l1Cut.l0 kj5 a0 a1 a2 x7_1 x8_1 (wrap64 (x9_1+1)))) else (none)) else (none))=some r:=by rw [if_pos rfl] at H;exact H
            clear H
            have H:=H1
            clear H1
            by_cases c10:0≤x9_1
            · rw [if_pos c10] at H
              have c10b0:decide (0≤x9_1)=true:=decide_eq_true c10
              clear c10
              by_cases c11:x9_1 < (a0.size:Int)
              · rw [if_pos c11] at H
                have c11b0:decide (x9_1 < (a0.size:Int))=true:=decide_eq_true c11
                clear c11
                by_cases c13:(bt a0 x9_1)=a1
                · rw [if_pos c13] at H
                  have c13b0:((bt a0 x9_1)==a1)=true:=beq_iff_eq.mpr c13
                  have c13b1:((bt a0 x9_1) != a1)=false:=bne_eq_false_iff_eq.mpr c13
                  clear c13
                  by_cases c14:0≤x8_1
                  · rw [if_pos c14] at H
                    have c14b0:=eq_true c14
                    have c14b1:decide (0≤x8_1)=true:=decide_eq_true c14
                    clear c14
                    by_cases c15:x8_1≤x9_1
                    · rw [if_pos c15] at H
                      have c15b0:=eq_true c15
                      have c15b1:decide (x8_1≤x9_1)=true:=decide_eq_true c15
                      clear c15
                      by_cases c16:x9_1≤(a0.size:Int)
                      · rw [if_pos c16] at H
                        have c16b0:=eq_true c16
                        have c16b1:decide (x9_1≤(a0.size:Int))=true:=decide_eq_true c16
                        clear c16
                        by_cases c17:x7_1.length < 8796093022208
                        · rw [if_pos c17] at H
                          have LMc17:=Aside0.mk c17
                          clear c17
                          obtain ⟨y104,hy104⟩:∃ y_:List ByteArray,y_=(x7_1++[a0.extract (x8_1:Int).toNat (x9_1:Int).toNat]):=⟨_,rfl⟩
                          replace H:(spec_l1Cut.l0 kj5 a0 a1 a2 y104 (wrap64 (x9_1+1)) (wrap64 (x9_1+1)))=some r:=by first|(rw [hy104];with_reducible exact H)|(have H2_:=(Option.bind_some _ _).symm.trans H;rw [hy104];with_reducible exact H2_)|(have H2_:=(Option.bind_some _ _).symm.trans H;with_reducible exact H2_)|with_reducible exact H|(rw [hy104];exact H)|exact H
                          have Ny104:=Aside0.mk hy104
                          clear hy104
                          have H':=Aside0.mk H
                          clear H
                          have p12:0≤(x9_1:Int):=of_decide_eq_true (by first|(with_reducible assumption)|assumption)
                          have q12:x9_1 < (a0.size:Int):=of_decide_eq_true (by first|(with_reducible assumption)|assumption)
                          have hx12:=bt_at a0 x9_1
                          replace p12:=eq_true p12
                          replace q12:=eq_true q12
                          go_wp2_with (first|((with_reducible refine gate_builtin (b:=.append) (xs:=#[.tmp 28,.tmp 33]) rfl ?_);(try (refine gate_guard (by rfl) ?_;dsimp only));at_builtin;refine Kd.R_append Kd.string (w0:=w) w.heap.size rfl (.tmp 28) (.tmp 33) 25 9 (.string ⟨#[]⟩) 16 rfl Tryd.underlying25 info9 rfl (by decide) (by omega) u7 x7_1 (a0.extract (x8_1:Int).toNat (x9_1:Int).toNat) [.string (a0.extract (x8_1:Int).toNat (x9_1:Int).toNat)] (fun _=>True) (fun _=>False) rfl rfl ?aP (fun _ hk=>hk.elim) ?aF ?aO ?aB ?aS ?aL ?_;(case aP=>exact rfl);(case aB=>exact (by repeat (first|(with_reducible first|exact HB.out|apply below_alloc|apply pw_below_drewN|apply below_drew1)|exact HB.out)));(case aF=>exact (fun _ _=>trivial));(case aO=>exact (by (with_reducible repeat (first|apply Kd.R_alloc|apply Kd.R_drewN|apply Kd.R_drew));exact HO_7.out));(case aS=>exact (below_size (by repeat (first|(with_reducible first|exact HB.out|apply below_alloc|apply pw_below_drewN|apply below_drew1)|exact HB.out))));(case aL=>have:=LMc17.out;omega);intro v105 w18 ho hb hg hat;rw [← Ny104.out] at ho;have n0_:=Aside0.mk (hb);have n1_:=Aside0.mk (ho);clear HB;clear HO_7;have HB:=n0_;have HO106:=n1_;clear n0_ n1_;clear ho hb hg hat))
                          go_roundg kj5
                          case measure=>have:=HK1.out;have:=HJ5.out;omega
                          case rel=>exact ⟨(y104),(wrap64 (x9_1+1)),(wrap64 (x9_1+1)),(by first|rfl|(simp;done)|(simp [*];done)),(by first|rfl|(simp;done)|(simp [*];done)),H',⟨by have:=HK1.out;have:=HJ5.out;omega⟩,⟨by (with_reducible repeat (first|apply Kd.R_alloc|apply Kd.R_drewN|apply Kd.R_drew));exact HO106.out⟩,⟨by repeat (first|(with_reducible first|exact HB.out|apply below_alloc|apply pw_below_drewN|apply below_drew1)|exact HB.out)⟩⟩
                        · rw [if_neg c17] at H
                          exact absurd H (by simp)
                      · rw [if_neg c16] at H
                        exact absurd H (by simp)
                    · rw [if_neg c15] at H
                      exact absurd H (by simp)
                  · rw [if_neg c14] at H
                    exact absurd H (by simp)
                · rw [if_neg c13] at H
                  have c13b0:((bt a0 x9_1)==a1)=false:=beq_eq_false_iff_ne.mpr c13
                  have c13b1:((bt a0 x9_1) != a1)=true:=bne_iff_ne.mpr c13
                  have H':=Aside0.mk H
                  clear H
                  have p12:0≤(x9_1:Int):=of_decide_eq_true (by first|(with_reducible assumption)|assumption)
                  have q12:x9_1 < (a0.size:Int):=of_decide_eq_true (by first|(with_reducible assumption)|assumption)
                  have hx12:=bt_at a0 x9_1
                  replace p12:=eq_true p12
                  replace q12:=eq_true q12
                  go_wp2
                  go_roundg kj5
                  case measure=>have:=HK1.out;have:=HJ5.out;omega
                  case rel=>exact ⟨(x7_1),(x8_1),(wrap64 (x9_1+1)),(by first|rfl|(simp;done)|(simp [*];done)),(by first|rfl|(simp;done)|(simp [*];done)),H',⟨by have:=HK1.out;have:=HJ5.out;omega⟩,⟨by (with_reducible repeat (first|apply Kd.R_alloc|apply Kd.R_drewN|apply Kd.R_drew));exact HO_7.out⟩,⟨by repeat (first|(with_reducible first|exact HB.out|apply below_alloc|apply pw_below_drewN|apply below_drew1)|exact HB.out)⟩⟩
              · rw [if_neg c11] at H
                exact absurd H (by simp)
            · rw [if_neg c10] at H
              exact absurd H (by simp)
          · replace c9:=Bool.eq_false_iff.mpr c9
            subst c9
            have H1:(if 0≤x8_1 then (if x8_1≤(a0.size:Int) then (if x7_1.length < 8796093022208 then (some (x7_1++[a0.extract (x8_1:Int).toNat a0.size])) else (none)) else (none)) else (none))=some r:=by rw [if_neg (show ¬ (false=true) by decide)] at H;exact H
            clear H
            have H:=H1
            clear H1
            by_cases c19:0≤x8_1
            · rw [if_pos c19] at H
              have c19b0:=eq_true c19
              have c19b1:decide (0≤x8_1)=true:=decide_eq_true c19
              clear c19
              by_cases c20:x8_1≤(a0.size:Int)
              · rw [if_pos c20] at H
                have c20b0:=eq_true c20
                have c20b1:decide (x8_1≤(a0.size:Int))=true:=decide_eq_true c20
                clear c20
                by_cases c21:x7_1.length < 8796093022208
                · rw [if_pos c21] at H
                  have LMc21:=Aside0.mk c21
                  clear c21
                  obtain ⟨y107,hy107⟩:∃ y_:List ByteArray,y_=(x7_1++[a0.extract (x8_1:Int).toNat a0.size]):=⟨_,rfl⟩
                  replace H:(some y107)=some r:=by first|(rw [hy107];with_reducible exact H)|(have H2_:=(Option.bind_some _ _).symm.trans H;rw [hy107];with_reducible exact H2_)|(have H2_:=(Option.bind_some _ _).symm.trans H;with_reducible exact H2_)|with_reducible exact H|(rw [hy107];exact H)|exact H
                  have Ny107:=Aside0.mk hy107
                  clear hy107
                  obtain rfl:=Option.some.inj H
                  go_wp2_with (first|((with_reducible refine gate_builtin (b:=.append) (xs:=#[.tmp 37,.tmp 41]) rfl ?_);(try (refine gate_guard (by rfl) ?_;dsimp only));at_builtin;refine Kd.R_append Kd.string (w0:=w) w.heap.size rfl (.tmp 37) (.tmp 41) 25 9 (.string ⟨#[]⟩) 16 rfl Tryd.underlying25 info9 rfl (by decide) (by omega) u7 x7_1 (a0.extract (x8_1:Int).toNat a0.size) [.string (a0.extract (x8_1:Int).toNat a0.size)] (fun _=>True) (fun _=>False) rfl rfl ?aP (fun _ hk=>hk.elim) ?aF ?aO ?aB ?aS ?aL ?_;(case aP=>exact rfl);(case aB=>exact (by repeat (first|(with_reducible first|exact HB.out|apply below_alloc|apply pw_below_drewN|apply below_drew1)|exact HB.out)));(case aF=>exact (fun _ _=>trivial));(case aO=>exact (by (with_reducible repeat (first|apply Kd.R_alloc|apply Kd.R_drewN|apply Kd.R_drew));exact HO_7.out));(case aS=>exact (below_size (by repeat (first|(with_reducible first|exact HB.out|apply below_alloc|apply pw_below_drewN|apply below_drew1)|exact HB.out))));(case aL=>have:=LMc21.out;omega);intro v108 w22 ho hb hg hat;rw [← Ny107.out] at ho;have n0_:=Aside0.mk (hb);have n1_:=Aside0.mk (ho);clear HB;clear HO_7;have HB:=n0_;have HO109:=n1_;clear n0_ n1_;clear ho hb hg hat))
                  go_ret
                  exact ⟨_,by first|rfl|(simp [errW_none,errW_some]<;>rfl)|(simp [*,errW_none,errW_some]<;>rfl),by (with_reducible repeat (first|apply Kd.R_alloc|apply Kd.R_drewN|apply Kd.R_drew));exact HO109.out,by repeat (first|(with_reducible first|exact HB.out|apply below_alloc|apply pw_below_drewN|apply below_drew1)|exact HB.out)⟩
                · rw [if_neg c21] at H
                  exact absurd H (by simp)
              · rw [if_neg c20] at H
                exact absurd H (by simp)
            · rw [if_neg c19] at H
              exact absurd H (by simp)
def spec_l1Domain.l0:Nat→List ByteArray→Int→Option (Bool)
  | 0,_,_=>none
  | k+1,x3,x4=>if x4 < (x3.length:Int) then (if 0≤x4 then ((spec_l1Word.f k (rdOf ByteArray.empty x3 x4)).bind fun t114=>(if t114=true then (spec_l1Domain.l0 k x3 (wrap64 (x4+1))) else (some false))) else (none)) else (some (decide ((x3.length:Int)≤3)))
def spec_l1Domain.f (k:Nat) (a0:ByteArray):Option (Bool):=(spec_l1Cut.f k a0 46 3).bind fun t110=>(spec_l1Domain.l0 k t110 0)
set_option maxHeartbeats 8000000 in
set_option maxRecDepth 100000 in
theorem spec_l1Domain.calls (k:Nat) (a0:ByteArray) (r:Bool) (w:World) (h:spec_l1Domain.f k a0=some r) :
    Calls Tryd.prog 58 #[.string a0] w fun e w'=>e=.returned (.bool r)∧Below w.heap.size w w':=by
  have HB:=Aside0.mk (Below.refl w.heap.size w)
  have H:((spec_l1Cut.f k a0 46 3).bind fun t110=>(spec_l1Domain.l0 k t110 0))=some r:=h
  clear h
  replace H:=Option.bind_eq_some_iff.mp H
  obtain ⟨t110,A20,H⟩:=H
  replace H:(spec_l1Domain.l0 k t110 0)=some r:=H
  have A2:=Aside0.mk A20
  clear A20
  have H':=Aside0.mk H
  clear H
  go_enter Tryd.func58,Tryd.ntmps58
  go_wp2_with (first|((with_reducible refine gate_callee (f:=100) rfl ?_);refine goesL_ (some 6) rfl rfl Tryd.func100 (by kernel_rfl) rfl #[.string a0,.int .u8 46,.int .i64 3] rfl (by (try simp only [List.map_toArray,List.map_cons,List.map_nil]);first|done|rfl|(simp only [List.length_drop,List.length_take];rfl)) ?_;(with_reducible refine (spec_l1Cut.calls k a0 46 3 t110 _ A2.out).mono ?_);rintro e w3 ⟨v111,rfl,ho0,hb⟩;refine ⟨_,rfl,?_⟩;have n0_:=Aside0.mk (Kd.R_lower ho0 (below_size (by repeat (first|(with_reducible first|exact HB.out|apply below_alloc|apply pw_below_drewN|apply below_drew1)|exact HB.out))));have n1_:=Aside0.mk (below_step (by repeat (first|(with_reducible first|exact HB.out|apply below_alloc|apply pw_below_drewN|apply below_drew1)|exact HB.out)) hb);clear HB;have HO112:=n0_;have HB:=n1_;clear n0_ n1_;(try clear hb);(try clear hb2);(try clear hk);(try clear hi);(try clear ho0)))
  go_loopg [4] k (fun kq v4 w'=>∃ (x4_1:Int),v4=.int .i64 x4_1∧Aside0 (spec_l1Domain.l0 kq t110 x4_1=some r)∧Aside0 (kq≤k)∧Aside0 (Kd.R Kd.string 9 w' w.heap.size (fun _=>True) v111 t110)∧Aside0 (Below w.heap.size w w'))
  case atStart=>exact ⟨(0),(by first|rfl|(simp;done)|(simp [*];done)),H',⟨Nat.le_refl _⟩,⟨by (with_reducible repeat (first|apply Kd.R_alloc|apply Kd.R_drewN|apply Kd.R_drew));exact HO112.out⟩,⟨by repeat (first|(with_reducible first|exact HB.out|apply below_alloc|apply pw_below_drewN|apply below_drew1)|exact HB.out)⟩⟩
  case round =>
    clear H'
    try clear c1
    try clear p2
    obtain ⟨x4_1,rfl,HA,HK1,HO_3,HB⟩:=hrel
    cases gk with
    | zero=>exact absurd HA.out (by simp [spec_l1Domain.l0])
    | succ k1 =>
      have H:=HA.out
      clear HA
      simp only [spec_l1Domain.l0] at H
      by_cases c4:x4_1 < (t110.length:Int)
      · rw [if_pos c4] at H
        have c4b0:decide (x4_1 < (t110.length:Int))=true:=decide_eq_true c4
        clear c4
        by_cases c5:0≤x4_1
        · rw [if_pos c5] at H
          have c5b0:decide (0≤x4_1)=true:=decide_eq_true c5
          clear c5
          replace H:=Option.bind_eq_some_iff.mp H
          obtain ⟨t114,A60,H⟩:=H
          replace H:(if t114=true then (spec_l1Domain.l0 k1 t110 (wrap64 (x4_1+1))) else (some false))=some r:=H
          have A6:=Aside0.mk A60
          clear A60
          by_cases c7:t114=true
          · subst c7
            have H1:(spec_l1Domain.l0 k1 t110 (wrap64 (x4_1+1)))=some r:=by rw [if_pos rfl] at H;exact H
            clear H
            have H:=H1
            clear H1
            have H':=Aside0.mk H
            clear H
            obtain ⟨Ao8,co8,eo8⟩:=Kd.R_slice HO_3.out
            subst eo8
            have p113:0≤(x4_1:Int):=of_decide_eq_true (by first|(with_reducible assumption)|assumption)
            have q113:x4_1 < (t110.length:Int):=of_decide_eq_true (by first|(with_reducible assumption)|assumption)
            obtain ⟨ad113,e113,hx113_0⟩:=Kd.at_string (Kd.R_reads' HO_3.out).2.2 x4_1 p113 q113
            cases e113
            replace p113:=eq_true p113
            replace q113:=eq_true q113
            go_wp2_with (first|((with_reducible refine gate_callee (f:=101) rfl ?_);refine goesL_ (some 17) rfl rfl Tryd.func101 (by kernel_rfl) rfl #[.string (rdOf ByteArray.empty t110 x4_1)] rfl (by (try simp only [List.map_toArray,List.map_cons,List.map_nil]);first|done|rfl|(simp only [List.length_drop,List.length_take];rfl)) ?_;(with_reducible refine (spec_l1Word.calls k1 (rdOf ByteArray.empty t110 x4_1) true _ A6.out).mono ?_);rintro e w' ⟨rfl,⟨nd,rfl⟩⟩;refine ⟨_,rfl,?_⟩))
            go_roundg k1
            case measure=>have:=HK1.out;omega
            case rel=>exact ⟨(wrap64 (x4_1+1)),(by first|rfl|(simp;done)|(simp [*];done)),H',⟨by have:=HK1.out;omega⟩,⟨by (with_reducible repeat (first|apply Kd.R_alloc|apply Kd.R_drewN|apply Kd.R_drew));exact HO_3.out⟩,⟨by repeat (first|(with_reducible first|exact HB.out|apply below_alloc|apply pw_below_drewN|apply below_drew1)|exact HB.out)⟩⟩
          · replace c7:=Bool.eq_false_iff.mpr c7
            subst c7
            have H1:(some false)=some r:=by rw [if_neg (show ¬ (false=true) by decide)] at H;exact H
            clear H
            have H:=H1
            clear H1
            obtain rfl:=Option.some.inj H
            obtain ⟨Ao9,co9,eo9⟩:=Kd.R_slice HO_3.out
            subst eo9
            have p113:0≤(x4_1:Int):=of_decide_eq_true (by first|(with_reducible assumption)|assumption)
            have q113:x4_1 < (t110.length:Int):=of_decide_eq_true (by first|(with_reducible assumption)|assumption)
            obtain ⟨ad113,e113,hx113_0⟩:=Kd.at_string (Kd.R_reads' HO_3.out).2.2 x4_1 p113 q113
            cases e113
            replace p113:=eq_true p113
            replace q113:=eq_true q113
            go_wp2_with (first|((with_reducible refine gate_callee (f:=101) rfl ?_);refine goesL_ (some 17) rfl rfl Tryd.func101 (by kernel_rfl) rfl #[.string (rdOf ByteArray.empty t110 x4_1)] rfl (by (try simp only [List.map_toArray,List.map_cons,List.map_nil]);first|done|rfl|(simp only [List.length_drop,List.length_take];rfl)) ?_;(with_reducible refine (spec_l1Word.calls k1 (rdOf ByteArray.empty t110 x4_1) false _ A6.out).mono ?_);rintro e w' ⟨rfl,⟨nd,rfl⟩⟩;refine ⟨_,rfl,?_⟩))
            go_ret
            exact ⟨by first|rfl|(simp [errW_none,errW_some]<;>rfl)|(simp [*,errW_none,errW_some]<;>rfl),by repeat (first|(with_reducible first|exact HB.out|apply below_alloc|apply pw_below_drewN|apply below_drew1)|exact HB.out)⟩
        · rw [if_neg c5] at H
          exact absurd H (by simp)
      · rw [if_neg c4] at H
        have c4b0:decide (x4_1 < (t110.length:Int))=false:=decide_eq_false c4
        clear c4
        obtain rfl:=Option.some.inj H
        obtain ⟨Ao10,co10,eo10⟩:=Kd.R_slice HO_3.out
        subst eo10
        go_wp2
        go_ret
        exact ⟨by first|rfl|(simp [errW_none,errW_some]<;>rfl)|(simp [*,errW_none,errW_some]<;>rfl),by repeat (first|(with_reducible first|exact HB.out|apply below_alloc|apply pw_below_drewN|apply below_drew1)|exact HB.out)⟩
def spec_l1AddrOk.f (k:Nat) (a0_0:ByteArray) (a0_1:ByteArray):Option (Bool):=(spec_l1Word.f k a0_0).bind fun t116=>(if t116=true then ((spec_l1Domain.f k a0_1).bind fun t117=>(some t117)) else (some false))
set_option maxHeartbeats 8000000 in
set_option maxRecDepth 100000 in
theorem spec_l1AddrOk.calls (k:Nat) (a0_0:ByteArray) (a0_1:ByteArray) (r:Bool) (w:World) (h:spec_l1AddrOk.f k a0_0 a0_1=some r) :
    Calls Tryd.prog 66 #[.agg #[.string a0_0,.string a0_1]] w fun e w'=>e=.returned (.bool r)∧Below w.heap.size w w':=by
  have hu30:=Tryd.underlying30
  have HB:=Aside0.mk (Below.refl w.heap.size w)
  have H:((spec_l1Word.f k a0_0).bind fun t116=>(if t116=true then ((spec_l1Domain.f k a0_1).bind fun t117=>(some t117)) else (some false)))=some r:=h
  clear h
  replace H:=Option.bind_eq_some_iff.mp H
  obtain ⟨t116,A20,H⟩:=H
  replace H:(if t116=true then ((spec_l1Domain.f k a0_1).bind fun t117=>(some t117)) else (some false))=some r:=H
  have A2:=Aside0.mk A20
  clear A20
  by_cases c3:t116=true
  · subst c3
    have H1:((spec_l1Domain.f k a0_1).bind fun t117=>(some t117))=some r:=by rw [if_pos rfl] at H;exact H
    clear H
    have H:=H1
    clear H1
    replace H:=Option.bind_eq_some_iff.mp H
    obtain ⟨t117,A40,H⟩:=H
    replace H:(some t117)=some r:=H
    have A4:=Aside0.mk A40
    clear A40
    obtain rfl:=Option.some.inj H
    go_enter Tryd.func66,Tryd.ntmps66
    go_wp2_with (first|((with_reducible refine gate_dst (N:=1) rfl ?_);refine box_event ?hg (N:=1) ?hd (cs:=#[.string a0_0,.string a0_1]) (t:=30) ?hr ?_;(case hd=>rfl);(case hg=>rfl);(case hr=>first|(go_simp;done)|(go_simp;rfl));intro gb115 hg w5 hbox hb;have n0_:=Aside0.mk (below_step (by repeat (first|(with_reducible first|exact HB.out|apply below_alloc|apply pw_below_drewN|apply below_drew1)|exact HB.out)) hb);have n1_:=Aside0.mk (hbox);have n2_:=Aside0.mk ((by rw [hg];exact (below_size (by repeat (first|(with_reducible first|exact HB.out|apply below_alloc|apply pw_below_drewN|apply below_drew1)|exact HB.out))):w.heap.size≤gb115));have n3_:=Aside0.mk ((by rw [hg];exact (below_size (by repeat (first|(with_reducible first|exact HB.out|apply below_alloc|apply pw_below_drewN|apply below_drew1)|exact HB.out))):w.heap.size≤gb115));clear HB;have HB:=n0_;have BK115:=n1_;have GW115:=n2_;have GE115:=n3_;clear n0_ n1_ n2_ n3_;clear hb hbox hg;have hcz6_0:w5.cell? ⟨gb115,0,none⟩=some (.string a0_0):=(blk_cell BK115.out 0).trans rfl;have hcz6_1:w5.cell? ⟨gb115,1,none⟩=some (.string a0_1):=(blk_cell BK115.out 1).trans rfl;have hfz6_0:=blk_frozen BK115.out 0;have hfz6_1:=blk_frozen BK115.out 1)|((with_reducible refine gate_callee (f:=101) rfl ?_);refine goesL_ (some 5) rfl rfl Tryd.func101 (by kernel_rfl) rfl #[.string a0_0] rfl (by (try simp only [List.map_toArray,List.map_cons,List.map_nil]);first|done|rfl|(simp only [List.length_drop,List.length_take];rfl)) ?_;(with_reducible refine (spec_l1Word.calls k a0_0 true _ A2.out).mono ?_);rintro e w' ⟨rfl,⟨nd,rfl⟩⟩;refine ⟨_,rfl,?_⟩)|(go_at_call 58;(with_reducible refine (spec_l1Domain.calls k a0_1 t117 _ A4.out).mono ?_);rintro e w7 ⟨rfl,hb⟩;have n0_:=Aside0.mk (blk_below (g:=gb115) (o:=.cells #[.string a0_0,.string a0_1] 30 (0,0)) (by (with_reducible repeat (first|refine blk_drewN ?_ _|refine blk_drew ?_|refine blk_alloc ?_ _));exact BK115.out) hb);have n1_:=Aside0.mk (below_step (by repeat (first|(with_reducible first|exact HB.out|apply below_alloc|apply pw_below_drewN|apply below_drew1|refine below_set ?_ GE115.out)|exact HB.out)) hb);clear BK115;clear HB;have BK115:=n0_;have HB:=n1_;clear n0_ n1_;(try clear hb);(try clear hb2);(try clear hk);(try clear hi)))
    go_ret
    exact ⟨by first|rfl|(simp [errW_none,errW_some]<;>rfl)|(simp [*,errW_none,errW_some]<;>rfl),by repeat (first|(with_reducible first|exact HB.out|apply below_alloc|apply pw_below_drewN|apply below_drew1|refine below_set ?_ GE115.out)|exact HB.out)⟩
  · replace c3:=Bool.eq_false_iff.mpr c3
    subst c3
    have H1:(some false)=some r:=by rw [if_neg (show ¬ (false=true) by decide)] at H;exact H
    clear H
    have H:=H1
    clear H1
    obtain rfl:=Option.some.inj H
    go_enter Tryd.func66,Tryd.ntmps66
    go_wp2_with (first|((with_reducible refine gate_dst (N:=1) rfl ?_);refine box_event ?hg (N:=1) ?hd (cs:=#[.string a0_0,.string a0_1]) (t:=30) ?hr ?_;(case hd=>rfl);(case hg=>rfl);(case hr=>first|(go_simp;done)|(go_simp;rfl));intro gb115 hg w8 hbox hb;have n0_:=Aside0.mk (below_step (by repeat (first|(with_reducible first|exact HB.out|apply below_alloc|apply pw_below_drewN|apply below_drew1)|exact HB.out)) hb);have n1_:=Aside0.mk (hbox);have n2_:=Aside0.mk ((by rw [hg];exact (below_size (by repeat (first|(with_reducible first|exact HB.out|apply below_alloc|apply pw_below_drewN|apply below_drew1)|exact HB.out))):w.heap.size≤gb115));have n3_:=Aside0.mk ((by rw [hg];exact (below_size (by repeat (first|(with_reducible first|exact HB.out|apply below_alloc|apply pw_below_drewN|apply below_drew1)|exact HB.out))):w.heap.size≤gb115));clear HB;have HB:=n0_;have BK115:=n1_;have GW115:=n2_;have GE115:=n3_;clear n0_ n1_ n2_ n3_;clear hb hbox hg;have hcz9_0:w8.cell? ⟨gb115,0,none⟩=some (.string a0_0):=(blk_cell BK115.out 0).trans rfl;have hcz9_1:w8.cell? ⟨gb115,1,none⟩=some (.string a0_1):=(blk_cell BK115.out 1).trans rfl;have hfz9_0:=blk_frozen BK115.out 0;have hfz9_1:=blk_frozen BK115.out 1)|((with_reducible refine gate_callee (f:=101) rfl ?_);refine goesL_ (some 5) rfl rfl Tryd.func101 (by kernel_rfl) rfl #[.string a0_0] rfl (by (try simp only [List.map_toArray,List.map_cons,List.map_nil]);first|done|rfl|(simp only [List.length_drop,List.length_take];rfl)) ?_;(with_reducible refine (spec_l1Word.calls k a0_0 false _ A2.out).mono ?_);rintro e w' ⟨rfl,⟨nd,rfl⟩⟩;refine ⟨_,rfl,?_⟩))
    go_ret
    exact ⟨by first|rfl|(simp [errW_none,errW_some]<;>rfl)|(simp [*,errW_none,errW_some]<;>rfl),by repeat (first|(with_reducible first|exact HB.out|apply below_alloc|apply pw_below_drewN|apply below_drew1|refine below_set ?_ GE115.out)|exact HB.out)⟩
end Go.Proofs.YthkibaldmjfmmaaDoor.Q
