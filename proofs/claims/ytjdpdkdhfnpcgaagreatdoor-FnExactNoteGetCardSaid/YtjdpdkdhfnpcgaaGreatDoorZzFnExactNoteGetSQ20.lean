/- Of a text of ours what this claim needs. -/
import Derived.Test.YtjdpdkdhfnpcgaaGreatDoorZzFnExactNoteGetSQ0
import Derived.Test.YtjdpdkdhfnpcgaaGreatDoorZzFnExactNoteGetSAu
namespace Go.Proofs.YtjdpdkdhfnpcgaaGreatDoor.Q
open Go.RowKit Go.Proofs.YtjdpdkdhfnpcgaaGreatDoorW.PrintWords Go.Proofs.YtjdpdkdhfnpcgaaGreatDoorW.PrintLast Go.Proofs.YtjdpdkdhfnpcgaaGreatDoorW.PrintMore
attribute [local go_sem] max2_int min2_int max_two min_two max_three min_three max_four min_four
set_option linter.unusedVariables false
set_option linter.unusedSimpArgs false
def spec_l1Num.l0:Nat→ByteArray→Int→Int→Option (Int)
 | 0,_,_,_=>none
 | k+1,x0,x3,x4=>if x4 < (x0.size:Int) then (if 0≤x4 then (if (bt x0 x4) < 48 then (some (-1)) else (if (bt x0 x4) > 57 then (some (-1)) else (if x4≥9 then (some (-1)) else (spec_l1Num.l0 k x0 (wrap64 ((wrap64 (x3 * 10))+(((bt x0 x4) - 48) % 256))) (wrap64 (x4+1)))))) else (none)) else (if (x0.size:Int)=0 then (some (-1)) else (if (x0.size:Int) > 1 then (if 0 < (x0.size:Int) then (if (bt x0 0)=48 then (some (-1)) else (some x3)) else (none)) else (some x3)))
def spec_l1Num.f (k:Nat) (a0:ByteArray):Option (Int):=spec_l1Num.l0 k a0 0 0
set_option maxHeartbeats 8000000 in
set_option maxRecDepth 100000 in
theorem spec_l1Num.calls (k:Nat) (a0:ByteArray) (r:Int) (w:World) (h:spec_l1Num.f k a0=some r) :
 Calls Tryz.prog 79 #[.string a0] w fun e w'=>e=.returned (.int .i64 r)∧Drawn0 w w':=by
 have H:(spec_l1Num.l0 k a0 0 0)=some r:=h
 clear h
 have H':=zA H
 clear H
 go_enter Tryz.func79,Tryz.ntmps79
 go_wp2
 go_loopg [3,4] k (fun kq v3 v4 w'=>∃ (ac:Int) (ak:Int),v3=.int .i64 ac∧v4=.int .i64 ak∧Aside0 (spec_l1Num.l0 kq a0 ac ak=some r)∧Aside0 (kq≤k)∧Drawn0 w w')
 case atStart=>exact ⟨(0),(0),zY3,zY3,H',⟨Nat.le_refl _⟩,by repeat (first|exact Drawn0.refl _|apply Drawn0.step)⟩
 case round =>
  clear H'
  obtain ⟨ac,ak,rfl,rfl,HA,HK1,⟨m1,rfl⟩⟩:=hrel
  cases gk with
  | zero=>exact absurd HA.out (by simp [spec_l1Num.l0])
  | succ k1 =>
   have H:=HA.out
   clear HA
   simp only [spec_l1Num.l0] at H
   by_cases c2:ak < (a0.size:Int)
   rotate_left
   ·rw [if_neg c2] at H
    have c2b0:decide (ak < (a0.size:Int))=false:=decide_eq_false c2
    clear c2
    by_cases ce:(a0.size:Int)=0
    ·rw [if_pos ce] at H
     have c10b0:((a0.size:Int)==0)=true:=beq_iff_eq.mpr ce
     have c10b1:((a0.size:Int) != 0)=false:=bne_eq_false_iff_eq.mpr ce
     clear ce
     obtain rfl:=Option.some.inj H
     go_wp2
     go_ret
     exact ⟨by first|rfl|(simp;done)|(simp [*];done),by repeat (first|exact Drawn0.refl _|apply Drawn0.step)⟩
    rw [if_neg ce] at H
    have c10b0:((a0.size:Int)==0)=false:=beq_eq_false_iff_ne.mpr ce
    have c10b1:((a0.size:Int) != 0)=true:=bne_iff_ne.mpr ce
    by_cases dI:(a0.size:Int) > 1
    rotate_left
    ·rw [if_neg dI] at H
     have c11b0:decide (1 < (a0.size:Int))=false:=decide_eq_false dI
     have c11b1:decide (1 < a0.size)=false:=decide_eq_false zY6
     clear dI
     obtain rfl:=Option.some.inj H
     go_wp2
     go_ret
     exact ⟨by first|rfl|(simp;done)|(simp [*];done),by repeat (first|exact Drawn0.refl _|apply Drawn0.step)⟩
    rw [if_pos dI] at H
    have c11b0:decide (1 < (a0.size:Int))=true:=decide_eq_true dI
    have c11b1:decide (1 < a0.size)=true:=decide_eq_true zY6
    clear dI
    obtain ⟨bH,H⟩:=zp H
    have c12b0:decide (0 < (a0.size:Int))=true:=decide_eq_true bH
    have c12b1:decide (0 < a0.size)=true:=decide_eq_true zY6
    clear bH
    by_cases bB:(bt a0 0)=48
    rotate_left
    ·rw [if_neg bB] at H
     have c14b0:((bt a0 0)==48)=false:=beq_eq_false_iff_ne.mpr bB
     have c14b1:((bt a0 0) != 48)=true:=bne_iff_ne.mpr bB
     obtain rfl:=Option.some.inj H
     have ux:0≤(0:Int):=zY6
     have n7:0 < a0.size:=(by have:(0:Int) < (a0.size:Int):=of_decide_eq_true zY1;omega)
     have Ef:∀ h:0 < a0.size,((a0[0]'h).toNat:Int)=bt a0 0:=bt_at a0 0
     clear ux
     have qi13:(0 < (a0.size:Int))=True:=eq_true (of_decide_eq_true zY1)
     replace n7:=eq_true n7
     go_wp2
     go_ret
     exact ⟨by first|rfl|(simp;done)|(simp [*];done),by repeat (first|exact Drawn0.refl _|apply Drawn0.step)⟩
    rw [if_pos bB] at H
    have c14b0:((bt a0 0)==48)=true:=beq_iff_eq.mpr bB
    have c14b1:((bt a0 0) != 48)=false:=bne_eq_false_iff_eq.mpr bB
    clear bB
    obtain rfl:=Option.some.inj H
    have ux:0≤(0:Int):=zY6
    have n7:0 < a0.size:=(by have:(0:Int) < (a0.size:Int):=of_decide_eq_true zY1;omega)
    have Ef:∀ h:0 < a0.size,((a0[0]'h).toNat:Int)=bt a0 0:=bt_at a0 0
    clear ux
    have qi13:(0 < (a0.size:Int))=True:=eq_true (of_decide_eq_true zY1)
    replace n7:=eq_true n7
    go_wp2
    go_ret
    exact ⟨by first|rfl|(simp;done)|(simp [*];done),by repeat (first|exact Drawn0.refl _|apply Drawn0.step)⟩
   rw [if_pos c2] at H
   have c2b0:decide (ak < (a0.size:Int))=true:=decide_eq_true c2
   clear c2
   obtain ⟨c3,H⟩:=zp H
   have c3b0:decide (0≤ak)=true:=decide_eq_true c3
   clear c3
   by_cases c5:(bt a0 ak) < 48
   ·rw [if_pos c5] at H
    have c5b0:decide ((bt a0 ak) < 48)=true:=decide_eq_true c5
    clear c5
    obtain rfl:=Option.some.inj H
    have p4:0≤(ak:Int):=of_decide_eq_true zY1
    have q4:ak < (a0.size:Int):=of_decide_eq_true zY1
    have gU:=bt_at a0 ak
    replace p4:=eq_true p4
    replace q4:=eq_true q4
    go_wp2
    go_ret
    exact ⟨by first|rfl|(simp;done)|(simp [*];done),by repeat (first|exact Drawn0.refl _|apply Drawn0.step)⟩
   rw [if_neg c5] at H
   have c5b0:decide ((bt a0 ak) < 48)=false:=decide_eq_false c5
   clear c5
   by_cases c7:(bt a0 ak) > 57
   ·rw [if_pos c7] at H
    have c7b0:decide (57 < (bt a0 ak))=true:=decide_eq_true c7
    clear c7
    obtain rfl:=Option.some.inj H
    have p4:0≤(ak:Int):=of_decide_eq_true zY1
    have q4:ak < (a0.size:Int):=of_decide_eq_true zY1
    have gU:=bt_at a0 ak
    replace p4:=eq_true p4
    replace q4:=eq_true q4
    have p6:0≤(ak:Int):=of_decide_eq_true zY1
    have q6:ak < (a0.size:Int):=of_decide_eq_true zY1
    have ll:=bt_at a0 ak
    replace p6:=eq_true p6
    replace q6:=eq_true q6
    go_wp2
    go_ret
    exact ⟨by first|rfl|(simp;done)|(simp [*];done),by repeat (first|exact Drawn0.refl _|apply Drawn0.step)⟩
   rw [if_neg c7] at H
   have c7b0:decide (57 < (bt a0 ak))=false:=decide_eq_false c7
   clear c7
   by_cases c8:ak≥9
   ·rw [if_pos c8] at H
    have c8b0:decide (9≤ak)=true:=decide_eq_true c8
    clear c8
    obtain rfl:=Option.some.inj H
    have p4:0≤(ak:Int):=of_decide_eq_true zY1
    have q4:ak < (a0.size:Int):=of_decide_eq_true zY1
    have gU:=bt_at a0 ak
    replace p4:=eq_true p4
    replace q4:=eq_true q4
    have p6:0≤(ak:Int):=of_decide_eq_true zY1
    have q6:ak < (a0.size:Int):=of_decide_eq_true zY1
    have ll:=bt_at a0 ak
    replace p6:=eq_true p6
    replace q6:=eq_true q6
    go_wp2
    go_ret
    exact ⟨by first|rfl|(simp;done)|(simp [*];done),by repeat (first|exact Drawn0.refl _|apply Drawn0.step)⟩
   rw [if_neg c8] at H
   have c8b0:decide (9≤ak)=false:=decide_eq_false c8
   clear c8
   have H':=zA H
   clear H
   have p4:0≤(ak:Int):=of_decide_eq_true zY1
   have q4:ak < (a0.size:Int):=of_decide_eq_true zY1
   have gU:=bt_at a0 ak
   replace p4:=eq_true p4
   replace q4:=eq_true q4
   have p6:0≤(ak:Int):=of_decide_eq_true zY1
   have q6:ak < (a0.size:Int):=of_decide_eq_true zY1
   have ll:=bt_at a0 ak
   replace p6:=eq_true p6
   replace q6:=eq_true q6
   have p9:0≤(ak:Int):=of_decide_eq_true zY1
   have q9:ak < (a0.size:Int):=of_decide_eq_true zY1
   have uy:=bt_at a0 ak
   replace p9:=eq_true p9
   replace q9:=eq_true q9
   go_wp2
   go_roundg k1
   case measure=>have:=HK1.out;omega
   case rel=>exact ⟨(wrap64 ((wrap64 (ac * 10))+(((bt a0 ak) - 48) % 256))),(wrap64 (ak+1)),zY3,zY3,H',⟨by have:=HK1.out;omega⟩,by repeat (first|exact Drawn0.refl _|apply Drawn0.step)⟩
def spec_l2Lines.l0:Nat→ByteArray→List ByteArray→Int→Int→Option (List ByteArray × ByteArray)
 | 0,_,_,_,_=>none
 | k+1,x0,x4,x5,x6=>if (wrap64 (x6+1)) < (x0.size:Int) then (if 0≤x6 then (if x6 < (x0.size:Int) then (if (bt x0 x6)=13 then (if 0≤(wrap64 (x6+1)) then (if (bt x0 (wrap64 (x6+1)))=10 then (if 0≤x5 then (if x5≤x6 then (if x6≤(x0.size:Int) then (if x4.length < 8796093022208 then (spec_l2Lines.l0 k x0 (x4++[x0.extract (x5:Int).toNat (x6:Int).toNat]) (wrap64 ((wrap64 (x6+1))+1)) (wrap64 ((wrap64 (x6+1))+1))) else (none)) else (none)) else (none)) else (none)) else (spec_l2Lines.l0 k x0 x4 x5 (wrap64 (x6+1)))) else (none)) else (spec_l2Lines.l0 k x0 x4 x5 (wrap64 (x6+1)))) else (none)) else (none)) else (if 0≤x5 then (if x5≤(x0.size:Int) then (some (x4,x0.extract (x5:Int).toNat x0.size)) else (none)) else (none))
def spec_l2Lines.f (k:Nat) (a0:ByteArray):Option (List ByteArray × ByteArray):=spec_l2Lines.l0 k a0 (([]:List ByteArray)) 0 0
set_option maxHeartbeats 8000000 in
set_option maxRecDepth 100000 in
theorem spec_l2Lines.calls (k:Nat) (a0:ByteArray) (r1:List ByteArray) (r2:ByteArray) (w:World) (h:spec_l2Lines.f k a0=some (r1,r2)) :
 Calls Tryz.prog 164 #[.string a0] w fun e w'=>∃ fO:Value,e=.returned (.tuple #[fO,.string r2])∧Kd.R Kd.string 9 w' w.heap.size (fun _=>True) fO r1∧Below w.heap.size w w':=by
 have HB:=zA (Below.refl w.heap.size w)
 have H:(spec_l2Lines.l0 k a0 (([]:List ByteArray)) 0 0)=some (r1,r2):=h
 clear h
 obtain ⟨iv,lV⟩:∃ y_:List ByteArray,y_=(([]:List ByteArray)):=⟨_,rfl⟩
 replace H:(spec_l2Lines.l0 k a0 iv 0 0)=some (r1,r2):=zX lV H
 have jI:=zA lV
 clear lV
 have H':=zA H
 clear H
 go_enter Tryz.func164,Tryz.ntmps164
 go_wp2_with (first|((with_reducible refine zq5 (N:=7) rfl ?_);refine Kd.R_lit Kd.string _ 9 ?hg (N:=7) ?hd (xs:=([]:List ByteArray)) (inner:=[]) (ok:=fun _=>True) (okp:=fun _=>True) ?hr ?hp (fun _ hk=>hk) trivial (Below.refl _ _) (Nat.le_refl _) (by simp) ?_;(case hd=>rfl);(case hg=>rfl);(case hr=>first|(go_simp;done)|(go_simp;rfl));(case hp=>exact (Reps.none _ _));intro uz w2 fQ hb hg_ hnew_;clear hg_ hnew_;(first|rw [← jI.out] at fQ|(simp only [Int.reduceToNat] at fQ;rw [← jI.out] at fQ));have n8:=zA (Kd.z6 fQ (zq7 zB));replace HB:=zA (zq0 zB hb);clear hb fQ))
 repeat (go_quiet (first|((with_reducible refine zq5 (N:=7) rfl ?_);refine Kd.R_lit Kd.string _ 9 ?hg (N:=7) ?hd (xs:=([]:List ByteArray)) (inner:=[]) (ok:=fun _=>True) (okp:=fun _=>True) ?hr ?hp (fun _ hk=>hk) trivial (Below.refl _ _) (Nat.le_refl _) (by simp) ?_;(case hd=>rfl);(case hg=>rfl);(case hr=>first|(go_simp;done)|(go_simp;rfl));(case hp=>exact (Reps.none _ _));intro uz w2 fQ hb hg_ hnew_;clear hg_ hnew_;(first|rw [← jI.out] at fQ|(simp only [Int.reduceToNat] at fQ;rw [← jI.out] at fQ));have n8:=zA (Kd.z6 fQ (zq7 zB));replace HB:=zA (zq0 zB hb);clear hb fQ));try go_wp2_with (first|((with_reducible refine zq5 (N:=7) rfl ?_);refine Kd.R_lit Kd.string _ 9 ?hg (N:=7) ?hd (xs:=([]:List ByteArray)) (inner:=[]) (ok:=fun _=>True) (okp:=fun _=>True) ?hr ?hp (fun _ hk=>hk) trivial (Below.refl _ _) (Nat.le_refl _) (by simp) ?_;(case hd=>rfl);(case hg=>rfl);(case hr=>first|(go_simp;done)|(go_simp;rfl));(case hp=>exact (Reps.none _ _));intro uz w2 fQ hb hg_ hnew_;clear hg_ hnew_;(first|rw [← jI.out] at fQ|(simp only [Int.reduceToNat] at fQ;rw [← jI.out] at fQ));have n8:=zA (Kd.z6 fQ (zq7 zB));replace HB:=zA (zq0 zB hb);clear hb fQ)))
 go_loopg [4,5,6] k (fun kq v4 v5 v6 w'=>∃ (ak:List ByteArray) (ae:Int) (aM:Int),v5=.int .i64 ae∧v6=.int .i64 aM∧Aside0 (spec_l2Lines.l0 kq a0 ak ae aM=some (r1,r2))∧Aside0 (kq≤k)∧Aside0 (Kd.R Kd.string 9 w' w.heap.size (fun _=>True) v4 ak)∧Aside0 (Below w.heap.size w w'))
 case atStart=>exact ⟨(iv),(0),(0),zY3,zY3,H',⟨Nat.le_refl _⟩,⟨zVR n8.out⟩,⟨zB⟩⟩
 case round =>
  clear H'
  try clear c1
  try clear p2
  obtain ⟨ak,ae,aM,rfl,rfl,HA,HK1,au,HB⟩:=hrel
  cases gk with
  | zero=>exact absurd HA.out (by simp [spec_l2Lines.l0])
  | succ k1 =>
   have H:=HA.out
   clear HA
   simp only [spec_l2Lines.l0] at H
   by_cases c4:(wrap64 (aM+1)) < (a0.size:Int)
   rotate_left
   ·rw [if_neg c4] at H
    have c4b0:decide ((wrap64 (aM+1)) < (a0.size:Int))=false:=decide_eq_false c4
    clear c4
    obtain ⟨bK,H⟩:=zp H
    have c18b0:=eq_true bK
    have c18b1:decide (0≤ae)=true:=decide_eq_true bK
    clear bK
    obtain ⟨cL,H⟩:=zp H
    have c19b0:=eq_true cL
    have c19b1:decide (ae≤(a0.size:Int))=true:=decide_eq_true cL
    clear cL
    simp only [Option.some.injEq,Prod.mk.injEq] at H
    obtain ⟨rfl,rfl⟩:=H
    go_wp2
    repeat (go_quiet (fail);try go_wp2)
    go_ret2
    exact ⟨_,zT,by (with_reducible repeat (first|apply Kd.z1|apply Kd.z4|apply Kd.z3));exact au.out,zB⟩
   rw [if_pos c4] at H
   have c4b0:decide ((wrap64 (aM+1)) < (a0.size:Int))=true:=decide_eq_true c4
   clear c4
   obtain ⟨c5,H⟩:=zp H
   have c5b0:decide (0≤aM)=true:=decide_eq_true c5
   clear c5
   obtain ⟨c6,H⟩:=zp H
   have c6b0:decide (aM < (a0.size:Int))=true:=decide_eq_true c6
   clear c6
   by_cases c8:(bt a0 aM)=13
   rotate_left
   ·rw [if_neg c8] at H
    have c8b0:((bt a0 aM)==13)=false:=beq_eq_false_iff_ne.mpr c8
    have c8b1:((bt a0 aM) != 13)=true:=bne_iff_ne.mpr c8
    have H':=zA H
    clear H
    have p7:0≤(aM:Int):=of_decide_eq_true zY1
    have q7:aM < (a0.size:Int):=of_decide_eq_true zY1
    have qr:=bt_at a0 aM
    replace p7:=eq_true p7
    replace q7:=eq_true q7
    go_wp2
    repeat (go_quiet (fail);try go_wp2)
    go_roundg k1
    case measure=>have:=HK1.out;omega
    case rel=>exact ⟨(ak),(ae),(wrap64 (aM+1)),zY3,zY3,H',⟨by have:=HK1.out;omega⟩,⟨zVR au.out⟩,⟨zB⟩⟩
   rw [if_pos c8] at H
   have c8b0:((bt a0 aM)==13)=true:=beq_iff_eq.mpr c8
   have c8b1:((bt a0 aM) != 13)=false:=bne_eq_false_iff_eq.mpr c8
   clear c8
   obtain ⟨ew,hji9⟩:∃ j_:Int,(wrap64 (aM+1))=j_:=⟨_,rfl⟩
   replace H:(if 0≤(ew) then (if (bt a0 (ew))=10 then (if 0≤ae then (if ae≤aM then (if aM≤(a0.size:Int) then (if ak.length < 8796093022208 then (spec_l2Lines.l0 k1 a0 (ak++[a0.extract (ae:Int).toNat (aM:Int).toNat]) (wrap64 ((ew)+1)) (wrap64 ((ew)+1))) else (none)) else (none)) else (none)) else (none)) else (spec_l2Lines.l0 k1 a0 ak ae ew)) else (none))=some (r1,r2):=by first|(rw [hji9] at H;exact H)|(simp only [hji9] at H ⊢;exact H)
   (try rw [hji9] at c4b0)
   have hji9w:(IntKind.i64.wrap (aM+1))=ew:=(i64_w _).trans hji9
   obtain ⟨ce,H⟩:=zp H
   have c10b0:decide (0≤(ew))=true:=decide_eq_true ce
   clear ce
   by_cases bH:(bt a0 (ew))=10
   rotate_left
   ·rw [if_neg bH] at H
    have c12b0:((bt a0 (ew))==10)=false:=beq_eq_false_iff_ne.mpr bH
    have c12b1:((bt a0 (ew)) != 10)=true:=bne_iff_ne.mpr bH
    have H':=zA H
    clear H
    have p7:0≤(aM:Int):=of_decide_eq_true zY1
    have q7:aM < (a0.size:Int):=of_decide_eq_true zY1
    have qr:=bt_at a0 aM
    replace p7:=eq_true p7
    replace q7:=eq_true q7
    have n9:0≤((ew):Int):=of_decide_eq_true zY1
    have iw:(ew) < (a0.size:Int):=of_decide_eq_true zY1
    have Eg:=bt_at a0 (ew)
    replace n9:=eq_true n9
    replace iw:=eq_true iw
    go_wp2
    repeat (go_quiet (fail);try go_wp2)
    go_roundg k1
    case measure=>have:=HK1.out;omega
    case rel=>exact ⟨(ak),(ae),(ew),zY3,(by first|rfl|(simp;done)|(simp only [← hji9]<;>(first|rfl|simp))|(simp [*];done)),H',⟨by have:=HK1.out;omega⟩,⟨zVR au.out⟩,⟨zB⟩⟩
   rw [if_pos bH] at H
   have c12b0:((bt a0 (ew))==10)=true:=beq_iff_eq.mpr bH
   have c12b1:((bt a0 (ew)) != 10)=false:=bne_eq_false_iff_eq.mpr bH
   clear bH
   obtain ⟨bj,H⟩:=zp H
   have c13b0:=eq_true bj
   have c13b1:decide (0≤ae)=true:=decide_eq_true bj
   clear bj
   obtain ⟨bB,H⟩:=zp H
   have c14b0:=eq_true bB
   have c14b1:decide (ae≤aM)=true:=decide_eq_true bB
   clear bB
   obtain ⟨bW,H⟩:=zp H
   have c15b0:=eq_true bW
   have c15b1:decide (aM≤(a0.size:Int))=true:=decide_eq_true bW
   clear bW
   obtain ⟨ck,H⟩:=zp H
   have LMc16:=zA ck
   clear ck
   obtain ⟨jJ,ix⟩:∃ y_:List ByteArray,y_=(ak++[a0.extract (ae:Int).toNat (aM:Int).toNat]):=⟨_,rfl⟩
   replace H:(spec_l2Lines.l0 k1 a0 jJ (wrap64 ((ew)+1)) (wrap64 ((ew)+1)))=some (r1,r2):=zX ix H
   have lW:=zA ix
   clear ix
   have H':=zA H
   clear H
   have p7:0≤(aM:Int):=of_decide_eq_true zY1
   have q7:aM < (a0.size:Int):=of_decide_eq_true zY1
   have qr:=bt_at a0 aM
   replace p7:=eq_true p7
   replace q7:=eq_true q7
   have n9:0≤((ew):Int):=of_decide_eq_true zY1
   have iw:(ew) < (a0.size:Int):=of_decide_eq_true zY1
   have Eg:=bt_at a0 (ew)
   replace n9:=eq_true n9
   replace iw:=eq_true iw
   go_wp2_with (first|((with_reducible refine gate_builtin (b:=.append) (xs:=#[.tmp 26,.tmp 31]) rfl ?_);at_builtin;refine Kd.R_append Kd.string (w0:=w) w.heap.size rfl (.tmp 26) (.tmp 31) 26 9 (.string ⟨#[]⟩) 16 rfl Tryz.underlying26 info9 rfl zY4 zY6 u4 ak (a0.extract (ae:Int).toNat (aM:Int).toNat) [.string (a0.extract (ae:Int).toNat (aM:Int).toNat)] (fun _=>True) (fun _=>False) rfl rfl ?aP (fun _ hk=>hk.elim) ?aF ?aO ?aB ?aS ?aL ?_;(case aP=>exact rfl);(case aB=>exact zB);(case aF=>exact (fun _ _=>trivial));(case aO=>exact (zVR au.out));(case aS=>exact (zq7 zB));(case aL=>have:=LMc16.out;omega);intro oa jz ho hb hg hat;rw [← lW.out] at ho;have aQ:=zA (hb);have aR:=zA (ho);clear HB;clear au;have HB:=aQ;have hJ:=aR;clear aQ aR;clear ho hb hg hat))
   repeat (go_quiet (first|((with_reducible refine gate_builtin (b:=.append) (xs:=#[.tmp 26,.tmp 31]) rfl ?_);at_builtin;refine Kd.R_append Kd.string (w0:=w) w.heap.size rfl (.tmp 26) (.tmp 31) 26 9 (.string ⟨#[]⟩) 16 rfl Tryz.underlying26 info9 rfl zY4 zY6 u4 ak (a0.extract (ae:Int).toNat (aM:Int).toNat) [.string (a0.extract (ae:Int).toNat (aM:Int).toNat)] (fun _=>True) (fun _=>False) rfl rfl ?aP (fun _ hk=>hk.elim) ?aF ?aO ?aB ?aS ?aL ?_;(case aP=>exact rfl);(case aB=>exact zB);(case aF=>exact (fun _ _=>trivial));(case aO=>exact (zVR au.out));(case aS=>exact (zq7 zB));(case aL=>have:=LMc16.out;omega);intro oa jz ho hb hg hat;rw [← lW.out] at ho;have aQ:=zA (hb);have aR:=zA (ho);clear HB;clear au;have HB:=aQ;have hJ:=aR;clear aQ aR;clear ho hb hg hat));try go_wp2_with (first|((with_reducible refine gate_builtin (b:=.append) (xs:=#[.tmp 26,.tmp 31]) rfl ?_);at_builtin;refine Kd.R_append Kd.string (w0:=w) w.heap.size rfl (.tmp 26) (.tmp 31) 26 9 (.string ⟨#[]⟩) 16 rfl Tryz.underlying26 info9 rfl zY4 zY6 u4 ak (a0.extract (ae:Int).toNat (aM:Int).toNat) [.string (a0.extract (ae:Int).toNat (aM:Int).toNat)] (fun _=>True) (fun _=>False) rfl rfl ?aP (fun _ hk=>hk.elim) ?aF ?aO ?aB ?aS ?aL ?_;(case aP=>exact rfl);(case aB=>exact zB);(case aF=>exact (fun _ _=>trivial));(case aO=>exact (zVR au.out));(case aS=>exact (zq7 zB));(case aL=>have:=LMc16.out;omega);intro oa jz ho hb hg hat;rw [← lW.out] at ho;have aQ:=zA (hb);have aR:=zA (ho);clear HB;clear au;have HB:=aQ;have hJ:=aR;clear aQ aR;clear ho hb hg hat)))
   go_roundg k1
   case measure=>have:=HK1.out;omega
   case rel=>exact ⟨(jJ),(wrap64 ((ew)+1)),(wrap64 ((ew)+1)),(by first|rfl|(simp;done)|(simp only [← hji9]<;>(first|rfl|simp))|(simp [*];done)),(by first|rfl|(simp;done)|(simp only [← hji9]<;>(first|rfl|simp))|(simp [*];done)),H',⟨by have:=HK1.out;omega⟩,⟨zVR hJ.out⟩,⟨zB⟩⟩
end Go.Proofs.YtjdpdkdhfnpcgaaGreatDoor.Q
