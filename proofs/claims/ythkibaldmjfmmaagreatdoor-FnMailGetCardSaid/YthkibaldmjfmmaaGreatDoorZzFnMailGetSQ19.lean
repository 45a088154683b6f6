/- Of a text of ours what this claim needs. -/
import Derived.Test.YthkibaldmjfmmaaGreatDoorZzFnMailGetSQ0
namespace Go.Proofs.YthkibaldmjfmmaaGreatDoor.Q
open Go.RowKit Go.Proofs.YthkibaldmjfmmaaGreatDoorW.PrintWords Go.Proofs.YthkibaldmjfmmaaGreatDoorW.PrintLast Go.Proofs.YthkibaldmjfmmaaGreatDoorW.PrintMore
attribute [local go_sem] max2_int min2_int max_two min_two max_three min_three max_four min_four
set_option linter.unusedVariables false
set_option linter.unusedSimpArgs false
def spec_l2Lines.l0:Nat→ByteArray→List ByteArray→Int→Int→Option (List ByteArray × ByteArray)
 | 0,_,_,_,_=>none
 | k+1,x0,x4,x5,x6=>if (wrap64 (x6+1)) < (x0.size:Int) then (if 0≤x6 then (if x6 < (x0.size:Int) then (if (bt x0 x6)=13 then (if 0≤(wrap64 (x6+1)) then (if (bt x0 (wrap64 (x6+1)))=10 then (if 0≤x5 then (if x5≤x6 then (if x6≤(x0.size:Int) then (if x4.length < 8796093022208 then (spec_l2Lines.l0 k x0 (x4++[x0.extract (x5:Int).toNat (x6:Int).toNat]) (wrap64 ((wrap64 (x6+1))+1)) (wrap64 ((wrap64 (x6+1))+1))) else (none)) else (none)) else (none)) else (none)) else (spec_l2Lines.l0 k x0 x4 x5 (wrap64 (x6+1)))) else (none)) else (spec_l2Lines.l0 k x0 x4 x5 (wrap64 (x6+1)))) else (none)) else (none)) else (if 0≤x5 then (if x5≤(x0.size:Int) then (some (x4,x0.extract (x5:Int).toNat x0.size)) else (none)) else (none))
def spec_l2Lines.f (k:Nat) (a0:ByteArray):Option (List ByteArray × ByteArray):=spec_l2Lines.l0 k a0 (([]:List ByteArray)) 0 0
set_option maxHeartbeats 8000000 in
set_option maxRecDepth 100000 in
theorem spec_l2Lines.calls (k:Nat) (a0:ByteArray) (r1:List ByteArray) (r2:ByteArray) (w:World) (h:spec_l2Lines.f k a0=some (r1,r2)) :
 Calls Tryz.prog 75 #[.string a0] w fun e w'=>∃ v0_:Value,e=.returned (.tuple #[v0_,.string r2])∧Kd.R Kd.string 9 w' w.heap.size (fun _=>True) v0_ r1∧Below w.heap.size w w':=by
 have HB:=Aside0.mk (Below.refl w.heap.size w)
 have H:(spec_l2Lines.l0 k a0 (([]:List ByteArray)) 0 0)=some (r1,r2):=h
 clear h
 obtain ⟨y134,hy134⟩:∃ y_:List ByteArray,y_=(([]:List ByteArray)):=⟨_,rfl⟩
 replace H:(spec_l2Lines.l0 k a0 y134 0 0)=some (r1,r2):=by first|(rw [hy134];with_reducible exact H)|(have H2_:=(Option.bind_some _ _).symm.trans H;rw [hy134];with_reducible exact H2_)|(have H2_:=(Option.bind_some _ _).symm.trans H;with_reducible exact H2_)|with_reducible exact H|(rw [hy134];exact H)|exact H
 have Ny134:=Aside0.mk hy134
 clear hy134
 have H':=Aside0.mk H
 clear H
 go_enter Tryz.func75,Tryz.ntmps75
 go_wp2_with (first|((with_reducible refine zq21 (N:=7) rfl ?_);refine Kd.R_lit Kd.string _ 9 ?hg (N:=7) ?hd (xs:=([]:List ByteArray)) (inner:=[]) (ok:=fun _=>True) (okp:=fun _=>True) ?hr ?hp (fun _ hk=>hk) trivial (Below.refl _ _) (Nat.le_refl _) (by simp) ?_;(case hd=>rfl);(case hg=>rfl);(case hr=>first|(go_simp;done)|(go_simp;rfl));(case hp=>exact (Reps.none _ _));intro v135 w2 ho3 hb hg_ hnew_;clear hg_ hnew_;(first|rw [← Ny134.out] at ho3|(simp only [Int.reduceToNat] at ho3;rw [← Ny134.out] at ho3));have n0_:=Aside0.mk (Kd.R_lower ho3 (zq10 (by repeat (first|(with_reducible first|exact HB.out|apply zq1|apply zq0|apply zq2)|exact HB.out))));have n1_:=Aside0.mk (zq9 (by repeat (first|(with_reducible first|exact HB.out|apply zq1|apply zq0|apply zq2)|exact HB.out)) hb);clear HB;have HO136:=n0_;have HB:=n1_;clear n0_ n1_;clear hb ho3))
 repeat (go_quiet (first|((with_reducible refine zq21 (N:=7) rfl ?_);refine Kd.R_lit Kd.string _ 9 ?hg (N:=7) ?hd (xs:=([]:List ByteArray)) (inner:=[]) (ok:=fun _=>True) (okp:=fun _=>True) ?hr ?hp (fun _ hk=>hk) trivial (Below.refl _ _) (Nat.le_refl _) (by simp) ?_;(case hd=>rfl);(case hg=>rfl);(case hr=>first|(go_simp;done)|(go_simp;rfl));(case hp=>exact (Reps.none _ _));intro v135 w2 ho3 hb hg_ hnew_;clear hg_ hnew_;(first|rw [← Ny134.out] at ho3|(simp only [Int.reduceToNat] at ho3;rw [← Ny134.out] at ho3));have n0_:=Aside0.mk (Kd.R_lower ho3 (zq10 (by repeat (first|(with_reducible first|exact HB.out|apply zq1|apply zq0|apply zq2)|exact HB.out))));have n1_:=Aside0.mk (zq9 (by repeat (first|(with_reducible first|exact HB.out|apply zq1|apply zq0|apply zq2)|exact HB.out)) hb);clear HB;have HO136:=n0_;have HB:=n1_;clear n0_ n1_;clear hb ho3));try go_wp2_with (first|((with_reducible refine zq21 (N:=7) rfl ?_);refine Kd.R_lit Kd.string _ 9 ?hg (N:=7) ?hd (xs:=([]:List ByteArray)) (inner:=[]) (ok:=fun _=>True) (okp:=fun _=>True) ?hr ?hp (fun _ hk=>hk) trivial (Below.refl _ _) (Nat.le_refl _) (by simp) ?_;(case hd=>rfl);(case hg=>rfl);(case hr=>first|(go_simp;done)|(go_simp;rfl));(case hp=>exact (Reps.none _ _));intro v135 w2 ho3 hb hg_ hnew_;clear hg_ hnew_;(first|rw [← Ny134.out] at ho3|(simp only [Int.reduceToNat] at ho3;rw [← Ny134.out] at ho3));have n0_:=Aside0.mk (Kd.R_lower ho3 (zq10 (by repeat (first|(with_reducible first|exact HB.out|apply zq1|apply zq0|apply zq2)|exact HB.out))));have n1_:=Aside0.mk (zq9 (by repeat (first|(with_reducible first|exact HB.out|apply zq1|apply zq0|apply zq2)|exact HB.out)) hb);clear HB;have HO136:=n0_;have HB:=n1_;clear n0_ n1_;clear hb ho3)))
 go_loopg [4,5,6] k (fun kq v4 v5 v6 w'=>∃ (x4_1:List ByteArray) (x5_1:Int) (x6_1:Int),v5=.int .i64 x5_1∧v6=.int .i64 x6_1∧Aside0 (spec_l2Lines.l0 kq a0 x4_1 x5_1 x6_1=some (r1,r2))∧Aside0 (kq≤k)∧Aside0 (Kd.R Kd.string 9 w' w.heap.size (fun _=>True) v4 x4_1)∧Aside0 (Below w.heap.size w w'))
 case atStart=>exact ⟨(y134),(0),(0),(by first|rfl|(simp;done)|(simp [*];done)),(by first|rfl|(simp;done)|(simp [*];done)),H',⟨Nat.le_refl _⟩,⟨by (with_reducible repeat (first|apply Kd.R_alloc|apply Kd.R_drewN|apply Kd.R_drew));exact HO136.out⟩,⟨by repeat (first|(with_reducible first|exact HB.out|apply zq1|apply zq0|apply zq2)|exact HB.out)⟩⟩
 case round =>
  clear H'
  try clear p2
  obtain ⟨x4_1,x5_1,x6_1,rfl,rfl,HA,HK1,HO_4,HB⟩:=hrel
  cases gk with
  | zero=>exact absurd HA.out (by simp [spec_l2Lines.l0])
  | succ k1 =>
   have H:=HA.out
   clear HA
   simp only [spec_l2Lines.l0] at H
   by_cases c4:(wrap64 (x6_1+1)) < (a0.size:Int)
   ·rw [if_pos c4] at H
    have c4b0:decide ((wrap64 (x6_1+1)) < (a0.size:Int))=true:=decide_eq_true c4
    clear c4
    by_cases c5:0≤x6_1
    ·rw [if_pos c5] at H
     have c5b0:decide (0≤x6_1)=true:=decide_eq_true c5
     clear c5
     by_cases c6:x6_1 < (a0.size:Int)
     ·rw [if_pos c6] at H
      have c6b0:decide (x6_1 < (a0.size:Int))=true:=decide_eq_true c6
      clear c6
      by_cases c8:(bt a0 x6_1)=13
      ·rw [if_pos c8] at H
       have c8b0:((bt a0 x6_1)==13)=true:=beq_iff_eq.mpr c8
       have c8b1:((bt a0 x6_1) != 13)=false:=bne_eq_false_iff_eq.mpr c8
       clear c8
       obtain ⟨ji9,hji9⟩:∃ j_:Int,(wrap64 (x6_1+1))=j_:=⟨_,rfl⟩
       replace H:(if 0≤(ji9) then (if (bt a0 (ji9))=10 then (if 0≤x5_1 then (if x5_1≤x6_1 then (if x6_1≤(a0.size:Int) then (if x4_1.length < 8796093022208 then (spec_l2Lines.l0 k1 a0 (x4_1++[a0.extract (x5_1:Int).toNat (x6_1:Int).toNat]) (wrap64 ((ji9)+1)) (wrap64 ((ji9)+1))) else (none)) else (none)) else (none)) else (none)) else (spec_l2Lines.l0 k1 a0 x4_1 x5_1 ji9)) else (none))=some (r1,r2):=by first|(rw [hji9] at H;exact H)|(simp only [hji9] at H ⊢;exact H)
       (try rw [hji9] at c4b0)
       have hji9w:(IntKind.i64.wrap (x6_1+1))=ji9:=(i64_w _).trans hji9
       by_cases c10:0≤(ji9)
       ·rw [if_pos c10] at H
        have c10b0:decide (0≤(ji9))=true:=decide_eq_true c10
        clear c10
        by_cases c12:(bt a0 (ji9))=10
        ·rw [if_pos c12] at H
         have c12b0:((bt a0 (ji9))==10)=true:=beq_iff_eq.mpr c12
         have c12b1:((bt a0 (ji9)) != 10)=false:=bne_eq_false_iff_eq.mpr c12
         clear c12
         by_cases c13:0≤x5_1
         ·rw [if_pos c13] at H
          have c13b0:=eq_true c13
          have c13b1:decide (0≤x5_1)=true:=decide_eq_true c13
          clear c13
          by_cases c14:x5_1≤x6_1
          ·rw [if_pos c14] at H
           have c14b0:=eq_true c14
           have c14b1:decide (x5_1≤x6_1)=true:=decide_eq_true c14
           clear c14
           by_cases c15:x6_1≤(a0.size:Int)
           ·rw [if_pos c15] at H
            have c15b0:=eq_true c15
            have c15b1:decide (x6_1≤(a0.size:Int))=true:=decide_eq_true c15
            clear c15
            by_cases c16:x4_1.length < 8796093022208
            ·rw [if_pos c16] at H
             have LMc16:=Aside0.mk c16
             clear c16
             obtain ⟨y137,hy137⟩:∃ y_:List ByteArray,y_=(x4_1++[a0.extract (x5_1:Int).toNat (x6_1:Int).toNat]):=⟨_,rfl⟩
             replace H:(spec_l2Lines.l0 k1 a0 y137 (wrap64 ((ji9)+1)) (wrap64 ((ji9)+1)))=some (r1,r2):=by first|(rw [hy137];with_reducible exact H)|(have H2_:=(Option.bind_some _ _).symm.trans H;rw [hy137];with_reducible exact H2_)|(have H2_:=(Option.bind_some _ _).symm.trans H;with_reducible exact H2_)|with_reducible exact H|(rw [hy137];exact H)|exact H
             have Ny137:=Aside0.mk hy137
             clear hy137
             have H':=Aside0.mk H
             clear H
             have p7:0≤(x6_1:Int):=of_decide_eq_true (by first|(with_reducible assumption)|assumption)
             have q7:x6_1 < (a0.size:Int):=of_decide_eq_true (by first|(with_reducible assumption)|assumption)
             have hx7:=bt_at a0 x6_1
             replace p7:=eq_true p7
             replace q7:=eq_true q7
             have p11:0≤((ji9):Int):=of_decide_eq_true (by first|(with_reducible assumption)|assumption)
             have q11:(ji9) < (a0.size:Int):=of_decide_eq_true (by first|(with_reducible assumption)|assumption)
             have hx11:=bt_at a0 (ji9)
             replace p11:=eq_true p11
             replace q11:=eq_true q11
             go_wp2_with (first|((with_reducible refine gate_builtin (b:=.append) (xs:=#[.tmp 26,.tmp 31]) rfl ?_);at_builtin;refine Kd.R_append Kd.string (w0:=w) w.heap.size rfl (.tmp 26) (.tmp 31) 26 9 (.string ⟨#[]⟩) 16 rfl Tryz.underlying26 info9 rfl (by decide) (by omega) u4 x4_1 (a0.extract (x5_1:Int).toNat (x6_1:Int).toNat) [.string (a0.extract (x5_1:Int).toNat (x6_1:Int).toNat)] (fun _=>True) (fun _=>False) rfl rfl ?aP (fun _ hk=>hk.elim) ?aF ?aO ?aB ?aS ?aL ?_;(case aP=>exact rfl);(case aB=>exact (by repeat (first|(with_reducible first|exact HB.out|apply zq1|apply zq0|apply zq2)|exact HB.out)));(case aF=>exact (fun _ _=>trivial));(case aO=>exact (by (with_reducible repeat (first|apply Kd.R_alloc|apply Kd.R_drewN|apply Kd.R_drew));exact HO_4.out));(case aS=>exact (zq10 (by repeat (first|(with_reducible first|exact HB.out|apply zq1|apply zq0|apply zq2)|exact HB.out))));(case aL=>have:=LMc16.out;omega);intro v138 w17 ho hb hg hat;rw [← Ny137.out] at ho;have n0_:=Aside0.mk (hb);have n1_:=Aside0.mk (ho);clear HB;clear HO_4;have HB:=n0_;have HO139:=n1_;clear n0_ n1_;clear ho hb hg hat))
             repeat (go_quiet (first|((with_reducible refine gate_builtin (b:=.append) (xs:=#[.tmp 26,.tmp 31]) rfl ?_);at_builtin;refine Kd.R_append Kd.string (w0:=w) w.heap.size rfl (.tmp 26) (.tmp 31) 26 9 (.string ⟨#[]⟩) 16 rfl Tryz.underlying26 info9 rfl (by decide) (by omega) u4 x4_1 (a0.extract (x5_1:Int).toNat (x6_1:Int).toNat) [.string (a0.extract (x5_1:Int).toNat (x6_1:Int).toNat)] (fun _=>True) (fun _=>False) rfl rfl ?aP (fun _ hk=>hk.elim) ?aF ?aO ?aB ?aS ?aL ?_;(case aP=>exact rfl);(case aB=>exact (by repeat (first|(with_reducible first|exact HB.out|apply zq1|apply zq0|apply zq2)|exact HB.out)));(case aF=>exact (fun _ _=>trivial));(case aO=>exact (by (with_reducible repeat (first|apply Kd.R_alloc|apply Kd.R_drewN|apply Kd.R_drew));exact HO_4.out));(case aS=>exact (zq10 (by repeat (first|(with_reducible first|exact HB.out|apply zq1|apply zq0|apply zq2)|exact HB.out))));(case aL=>have:=LMc16.out;omega);intro v138 w17 ho hb hg hat;rw [← Ny137.out] at ho;have n0_:=Aside0.mk (hb);have n1_:=Aside0.mk (ho);clear HB;clear HO_4;have HB:=n0_;have HO139:=n1_;clear n0_ n1_;clear ho hb hg hat));try go_wp2_with (first|((with_reducible refine gate_builtin (b:=.append) (xs:=#[.tmp 26,.tmp 31]) rfl ?_);at_builtin;refine Kd.R_append Kd.string (w0:=w) w.heap.size rfl (.tmp 26) (.tmp 31) 26 9 (.string ⟨#[]⟩) 16 rfl Tryz.underlying26 info9 rfl (by decide) (by omega) u4 x4_1 (a0.extract (x5_1:Int).toNat (x6_1:Int).toNat) [.string (a0.extract (x5_1:Int).toNat (x6_1:Int).toNat)] (fun _=>True) (fun _=>False) rfl rfl ?aP (fun _ hk=>hk.elim) ?aF ?aO ?aB ?aS ?aL ?_;(case aP=>exact rfl);(case aB=>exact (by repeat (first|(with_reducible first|exact HB.out|apply zq1|apply zq0|apply zq2)|exact HB.out)));(case aF=>exact (fun _ _=>trivial));(case aO=>exact (by (with_reducible repeat (first|apply Kd.R_alloc|apply Kd.R_drewN|apply Kd.R_drew));exact HO_4.out));(case aS=>exact (zq10 (by repeat (first|(with_reducible first|exact HB.out|apply zq1|apply zq0|apply zq2)|exact HB.out))));(case aL=>have:=LMc16.out;omega);intro v138 w17 ho hb hg hat;rw [← Ny137.out] at ho;have n0_:=Aside0.mk (hb);have n1_:=Aside0.mk (ho);clear HB;clear HO_4;have HB:=n0_;have HO139:=n1_;clear n0_ n1_;clear ho hb hg hat)))
             go_roundg k1
             case measure=>have:=HK1.out;omega
             case rel=>exact ⟨(y137),(wrap64 ((ji9)+1)),(wrap64 ((ji9)+1)),(by first|rfl|(simp;done)|(simp only [← hji9]<;>(first|rfl|simp))|(simp [*];done)),(by first|rfl|(simp;done)|(simp only [← hji9]<;>(first|rfl|simp))|(simp [*];done)),H',⟨by have:=HK1.out;omega⟩,⟨by (with_reducible repeat (first|apply Kd.R_alloc|apply Kd.R_drewN|apply Kd.R_drew));exact HO139.out⟩,⟨by repeat (first|(with_reducible first|exact HB.out|apply zq1|apply zq0|apply zq2)|exact HB.out)⟩⟩
            ·rw [if_neg c16] at H
             exact absurd H (by simp)
           ·rw [if_neg c15] at H
            exact absurd H (by simp)
          ·rw [if_neg c14] at H
           exact absurd H (by simp)
         ·rw [if_neg c13] at H
          exact absurd H (by simp)
        ·rw [if_neg c12] at H
         have c12b0:((bt a0 (ji9))==10)=false:=beq_eq_false_iff_ne.mpr c12
         have c12b1:((bt a0 (ji9)) != 10)=true:=bne_iff_ne.mpr c12
         have H':=Aside0.mk H
         clear H
         have p7:0≤(x6_1:Int):=of_decide_eq_true (by first|(with_reducible assumption)|assumption)
         have q7:x6_1 < (a0.size:Int):=of_decide_eq_true (by first|(with_reducible assumption)|assumption)
         have hx7:=bt_at a0 x6_1
         replace p7:=eq_true p7
         replace q7:=eq_true q7
         have p11:0≤((ji9):Int):=of_decide_eq_true (by first|(with_reducible assumption)|assumption)
         have q11:(ji9) < (a0.size:Int):=of_decide_eq_true (by first|(with_reducible assumption)|assumption)
         have hx11:=bt_at a0 (ji9)
         replace p11:=eq_true p11
         replace q11:=eq_true q11
         go_wp2
         repeat (go_quiet (fail);try go_wp2)
         go_roundg k1
         case measure=>have:=HK1.out;omega
         case rel=>exact ⟨(x4_1),(x5_1),(ji9),(by first|rfl|(simp;done)|(simp [*];done)),(by first|rfl|(simp;done)|(simp only [← hji9]<;>(first|rfl|simp))|(simp [*];done)),H',⟨by have:=HK1.out;omega⟩,⟨by (with_reducible repeat (first|apply Kd.R_alloc|apply Kd.R_drewN|apply Kd.R_drew));exact HO_4.out⟩,⟨by repeat (first|(with_reducible first|exact HB.out|apply zq1|apply zq0|apply zq2)|exact HB.out)⟩⟩
       ·rw [if_neg c10] at H
        exact absurd H (by simp)
      ·rw [if_neg c8] at H
       have c8b0:((bt a0 x6_1)==13)=false:=beq_eq_false_iff_ne.mpr c8
       have c8b1:((bt a0 x6_1) != 13)=true:=bne_iff_ne.mpr c8
       have H':=Aside0.mk H
       clear H
       have p7:0≤(x6_1:Int):=of_decide_eq_true (by first|(with_reducible assumption)|assumption)
       have q7:x6_1 < (a0.size:Int):=of_decide_eq_true (by first|(with_reducible assumption)|assumption)
       have hx7:=bt_at a0 x6_1
       replace p7:=eq_true p7
       replace q7:=eq_true q7
       go_wp2
       repeat (go_quiet (fail);try go_wp2)
       go_roundg k1
       case measure=>have:=HK1.out;omega
       case rel=>exact ⟨(x4_1),(x5_1),(wrap64 (x6_1+1)),(by first|rfl|(simp;done)|(simp [*];done)),(by first|rfl|(simp;done)|(simp [*];done)),H',⟨by have:=HK1.out;omega⟩,⟨by (with_reducible repeat (first|apply Kd.R_alloc|apply Kd.R_drewN|apply Kd.R_drew));exact HO_4.out⟩,⟨by repeat (first|(with_reducible first|exact HB.out|apply zq1|apply zq0|apply zq2)|exact HB.out)⟩⟩
     ·rw [if_neg c6] at H
      exact absurd H (by simp)
    ·rw [if_neg c5] at H
     exact absurd H (by simp)
   ·rw [if_neg c4] at H
    have c4b0:decide ((wrap64 (x6_1+1)) < (a0.size:Int))=false:=decide_eq_false c4
    clear c4
    by_cases c18:0≤x5_1
    ·rw [if_pos c18] at H
     have c18b0:=eq_true c18
     have c18b1:decide (0≤x5_1)=true:=decide_eq_true c18
     clear c18
     by_cases c19:x5_1≤(a0.size:Int)
     ·rw [if_pos c19] at H
      have c19b0:=eq_true c19
      have c19b1:decide (x5_1≤(a0.size:Int))=true:=decide_eq_true c19
      clear c19
      simp only [Option.some.injEq,Prod.mk.injEq] at H
      obtain ⟨rfl,rfl⟩:=H
      go_wp2
      repeat (go_quiet (fail);try go_wp2)
      go_ret2
      exact ⟨_,by first|rfl|(simp [zq11,zq12]<;>rfl)|(simp [*,zq11,zq12]<;>rfl),by (with_reducible repeat (first|apply Kd.R_alloc|apply Kd.R_drewN|apply Kd.R_drew));exact HO_4.out,by repeat (first|(with_reducible first|exact HB.out|apply zq1|apply zq0|apply zq2)|exact HB.out)⟩
     ·rw [if_neg c19] at H
      exact absurd H (by simp)
    ·rw [if_neg c18] at H
     exact absurd H (by simp)
end Go.Proofs.YthkibaldmjfmmaaGreatDoor.Q
