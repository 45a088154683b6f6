/- Of a text of ours what this claim needs. -/
import Derived.Test.YtjdpdkdhfnpcgaaGreatDoorZzFnExactNoteGetSQ0
import Derived.Test.YtjdpdkdhfnpcgaaGreatDoorZzFnExactNoteGetSAu
import Derived.Test.YtjdpdkdhfnpcgaaGreatDoorZzFnExactNoteGetSQ3
namespace Go.Proofs.YtjdpdkdhfnpcgaaGreatDoor.Q
open Go.RowKit Go.Proofs.YtjdpdkdhfnpcgaaGreatDoorW.PrintWords Go.Proofs.YtjdpdkdhfnpcgaaGreatDoorW.PrintLast Go.Proofs.YtjdpdkdhfnpcgaaGreatDoorW.PrintMore
attribute [local go_sem] max2_int min2_int max_two min_two max_three min_three max_four min_four
set_option linter.unusedVariables false
set_option linter.unusedSimpArgs false
def spec_l1Word.l0:Nat→ByteArray→Int→Option (Bool)
 | 0,_,_=>none
 | k+1,x0,x3=>if x3 < (x0.size:Int) then (if 0≤x3 then (if (bt x0 x3) < 97 then (if (bt x0 x3) < 48 then (some false) else (if (bt x0 x3) > 57 then (some false) else (spec_l1Word.l0 k x0 (wrap64 (x3+1))))) else (if (bt x0 x3) > 122 then (if (bt x0 x3) < 48 then (some false) else (if (bt x0 x3) > 57 then (some false) else (spec_l1Word.l0 k x0 (wrap64 (x3+1))))) else (spec_l1Word.l0 k x0 (wrap64 (x3+1))))) else (none)) else ((spec_l1In.f (x0.size:Int) 1 8).bind fun bP=>(some bP))
def spec_l1Word.f (k:Nat) (a0:ByteArray):Option (Bool):=spec_l1Word.l0 k a0 0
set_option maxHeartbeats 8000000 in
set_option maxRecDepth 100000 in
theorem spec_l1Word.calls (k:Nat) (a0:ByteArray) (r:Bool) (w:World) (h:spec_l1Word.f k a0=some r) :
 Calls Tryz.prog 108 #[.string a0] w fun e w'=>e=.returned (.bool r)∧Drawn0 w w':=by
 have H:(spec_l1Word.l0 k a0 0)=some r:=h
 clear h
 have H':=zA H
 clear H
 go_enter Tryz.func108,Tryz.ntmps108
 go_wp2
 go_loopg [3] k (fun kq v3 w'=>∃ (ac:Int),v3=.int .i64 ac∧Aside0 (spec_l1Word.l0 kq a0 ac=some r)∧Aside0 (kq≤k)∧Drawn0 w w')
 case atStart=>exact ⟨(0),zY3,H',⟨Nat.le_refl _⟩,by repeat (first|exact Drawn0.refl _|apply Drawn0.step)⟩
 case round =>
  clear H'
  try clear c1
  obtain ⟨ac,rfl,HA,HK1,⟨m1,rfl⟩⟩:=hrel
  cases gk with
  | zero=>exact absurd HA.out (by simp [spec_l1Word.l0])
  | succ k1 =>
   have H:=HA.out
   clear HA
   simp only [spec_l1Word.l0] at H
   by_cases c2:ac < (a0.size:Int)
   rotate_left
   ·rw [if_neg c2] at H
    have c2b0:decide (ac < (a0.size:Int))=false:=decide_eq_false c2
    clear c2
    replace H:=Option.bind_eq_some_iff.mp H
    obtain ⟨bP,kx,H⟩:=H
    try dsimp only at H
    have lh:=zA kx
    clear kx
    obtain rfl:=Option.some.inj H
    go_wp2_with (first|((with_reducible refine zq2 (f:=58) rfl ?_);refine zq4 (some 34) rfl rfl Tryz.func58 zY2 rfl #[.int .i64 (a0.size:Int),.int .i64 1,.int .i64 8] rfl zY0 ?_;(with_reducible refine (spec_l1In.calls (a0.size:Int) 1 8 bP _ lh.out).mono ?_);rintro e w' ⟨rfl,⟨nd,rfl⟩⟩;refine ⟨_,rfl,?_⟩))
    go_ret
    exact ⟨by first|rfl|(simp;done)|(simp [*];done),by repeat (first|exact Drawn0.refl _|apply Drawn0.step)⟩
   rw [if_pos c2] at H
   have c2b0:decide (ac < (a0.size:Int))=true:=decide_eq_true c2
   clear c2
   obtain ⟨c3,H⟩:=zp H
   have c3b0:decide (0≤ac)=true:=decide_eq_true c3
   clear c3
   by_cases c5:(bt a0 ac) < 97
   ·rw [if_pos c5] at H
    have c5b0:decide ((bt a0 ac) < 97)=true:=decide_eq_true c5
    clear c5
    by_cases c7:(bt a0 ac) < 48
    ·rw [if_pos c7] at H
     have c7b0:decide ((bt a0 ac) < 48)=true:=decide_eq_true c7
     clear c7
     obtain rfl:=Option.some.inj H
     have p4:0≤(ac:Int):=of_decide_eq_true zY1
     have q4:ac < (a0.size:Int):=of_decide_eq_true zY1
     have gU:=bt_at a0 ac
     replace p4:=eq_true p4
     replace q4:=eq_true q4
     have p6:0≤(ac:Int):=of_decide_eq_true zY1
     have q6:ac < (a0.size:Int):=of_decide_eq_true zY1
     have ll:=bt_at a0 ac
     replace p6:=eq_true p6
     replace q6:=eq_true q6
     go_wp2
     go_ret
     exact ⟨by first|rfl|(simp;done)|(simp [*];done),by repeat (first|exact Drawn0.refl _|apply Drawn0.step)⟩
    rw [if_neg c7] at H
    have c7b0:decide ((bt a0 ac) < 48)=false:=decide_eq_false c7
    clear c7
    by_cases c9:(bt a0 ac) > 57
    ·rw [if_pos c9] at H
     have c9b0:decide (57 < (bt a0 ac))=true:=decide_eq_true c9
     clear c9
     obtain rfl:=Option.some.inj H
     have p4:0≤(ac:Int):=of_decide_eq_true zY1
     have q4:ac < (a0.size:Int):=of_decide_eq_true zY1
     have gU:=bt_at a0 ac
     replace p4:=eq_true p4
     replace q4:=eq_true q4
     have p6:0≤(ac:Int):=of_decide_eq_true zY1
     have q6:ac < (a0.size:Int):=of_decide_eq_true zY1
     have ll:=bt_at a0 ac
     replace p6:=eq_true p6
     replace q6:=eq_true q6
     have p8:0≤(ac:Int):=of_decide_eq_true zY1
     have q8:ac < (a0.size:Int):=of_decide_eq_true zY1
     have sY:=bt_at a0 ac
     replace p8:=eq_true p8
     replace q8:=eq_true q8
     go_wp2
     go_ret
     exact ⟨by first|rfl|(simp;done)|(simp [*];done),by repeat (first|exact Drawn0.refl _|apply Drawn0.step)⟩
    rw [if_neg c9] at H
    have c9b0:decide (57 < (bt a0 ac))=false:=decide_eq_false c9
    clear c9
    have H':=zA H
    clear H
    have p4:0≤(ac:Int):=of_decide_eq_true zY1
    have q4:ac < (a0.size:Int):=of_decide_eq_true zY1
    have gU:=bt_at a0 ac
    replace p4:=eq_true p4
    replace q4:=eq_true q4
    have p6:0≤(ac:Int):=of_decide_eq_true zY1
    have q6:ac < (a0.size:Int):=of_decide_eq_true zY1
    have ll:=bt_at a0 ac
    replace p6:=eq_true p6
    replace q6:=eq_true q6
    have p8:0≤(ac:Int):=of_decide_eq_true zY1
    have q8:ac < (a0.size:Int):=of_decide_eq_true zY1
    have sY:=bt_at a0 ac
    replace p8:=eq_true p8
    replace q8:=eq_true q8
    go_wp2
    go_roundg k1
    case measure=>have:=HK1.out;omega
    case rel=>exact ⟨(wrap64 (ac+1)),zY3,H',⟨by have:=HK1.out;omega⟩,by repeat (first|exact Drawn0.refl _|apply Drawn0.step)⟩
   rw [if_neg c5] at H
   have c5b0:decide ((bt a0 ac) < 97)=false:=decide_eq_false c5
   clear c5
   by_cases dI:(bt a0 ac) > 122
   rotate_left
   ·rw [if_neg dI] at H
    have c11b0:decide (122 < (bt a0 ac))=false:=decide_eq_false dI
    clear dI
    have H':=zA H
    clear H
    have p4:0≤(ac:Int):=of_decide_eq_true zY1
    have q4:ac < (a0.size:Int):=of_decide_eq_true zY1
    have gU:=bt_at a0 ac
    replace p4:=eq_true p4
    replace q4:=eq_true q4
    have im:0≤(ac:Int):=of_decide_eq_true zY1
    have io:ac < (a0.size:Int):=of_decide_eq_true zY1
    have sZ:=bt_at a0 ac
    replace im:=eq_true im
    replace io:=eq_true io
    go_wp2
    go_roundg k1
    case measure=>have:=HK1.out;omega
    case rel=>exact ⟨(wrap64 (ac+1)),zY3,H',⟨by have:=HK1.out;omega⟩,by repeat (first|exact Drawn0.refl _|apply Drawn0.step)⟩
   rw [if_pos dI] at H
   have c11b0:decide (122 < (bt a0 ac))=true:=decide_eq_true dI
   clear dI
   by_cases bj:(bt a0 ac) < 48
   ·rw [if_pos bj] at H
    have c13b0:decide ((bt a0 ac) < 48)=true:=decide_eq_true bj
    clear bj
    obtain rfl:=Option.some.inj H
    have p4:0≤(ac:Int):=of_decide_eq_true zY1
    have q4:ac < (a0.size:Int):=of_decide_eq_true zY1
    have gU:=bt_at a0 ac
    replace p4:=eq_true p4
    replace q4:=eq_true q4
    have im:0≤(ac:Int):=of_decide_eq_true zY1
    have io:ac < (a0.size:Int):=of_decide_eq_true zY1
    have sZ:=bt_at a0 ac
    replace im:=eq_true im
    replace io:=eq_true io
    have gy:0≤(ac:Int):=of_decide_eq_true zY1
    have gz:ac < (a0.size:Int):=of_decide_eq_true zY1
    have qj:=bt_at a0 ac
    replace gy:=eq_true gy
    replace gz:=eq_true gz
    go_wp2
    go_ret
    exact ⟨by first|rfl|(simp;done)|(simp [*];done),by repeat (first|exact Drawn0.refl _|apply Drawn0.step)⟩
   rw [if_neg bj] at H
   have c13b0:decide ((bt a0 ac) < 48)=false:=decide_eq_false bj
   clear bj
   by_cases bW:(bt a0 ac) > 57
   ·rw [if_pos bW] at H
    have c15b0:decide (57 < (bt a0 ac))=true:=decide_eq_true bW
    clear bW
    obtain rfl:=Option.some.inj H
    have p4:0≤(ac:Int):=of_decide_eq_true zY1
    have q4:ac < (a0.size:Int):=of_decide_eq_true zY1
    have gU:=bt_at a0 ac
    replace p4:=eq_true p4
    replace q4:=eq_true q4
    have im:0≤(ac:Int):=of_decide_eq_true zY1
    have io:ac < (a0.size:Int):=of_decide_eq_true zY1
    have sZ:=bt_at a0 ac
    replace im:=eq_true im
    replace io:=eq_true io
    have gy:0≤(ac:Int):=of_decide_eq_true zY1
    have gz:ac < (a0.size:Int):=of_decide_eq_true zY1
    have qj:=bt_at a0 ac
    replace gy:=eq_true gy
    replace gz:=eq_true gz
    have i6:0≤(ac:Int):=of_decide_eq_true zY1
    have i7:ac < (a0.size:Int):=of_decide_eq_true zY1
    have s9:=bt_at a0 ac
    replace i6:=eq_true i6
    replace i7:=eq_true i7
    go_wp2
    go_ret
    exact ⟨by first|rfl|(simp;done)|(simp [*];done),by repeat (first|exact Drawn0.refl _|apply Drawn0.step)⟩
   rw [if_neg bW] at H
   have c15b0:decide (57 < (bt a0 ac))=false:=decide_eq_false bW
   clear bW
   have H':=zA H
   clear H
   have p4:0≤(ac:Int):=of_decide_eq_true zY1
   have q4:ac < (a0.size:Int):=of_decide_eq_true zY1
   have gU:=bt_at a0 ac
   replace p4:=eq_true p4
   replace q4:=eq_true q4
   have im:0≤(ac:Int):=of_decide_eq_true zY1
   have io:ac < (a0.size:Int):=of_decide_eq_true zY1
   have sZ:=bt_at a0 ac
   replace im:=eq_true im
   replace io:=eq_true io
   have gy:0≤(ac:Int):=of_decide_eq_true zY1
   have gz:ac < (a0.size:Int):=of_decide_eq_true zY1
   have qj:=bt_at a0 ac
   replace gy:=eq_true gy
   replace gz:=eq_true gz
   have i6:0≤(ac:Int):=of_decide_eq_true zY1
   have i7:ac < (a0.size:Int):=of_decide_eq_true zY1
   have s9:=bt_at a0 ac
   replace i6:=eq_true i6
   replace i7:=eq_true i7
   go_wp2
   go_roundg k1
   case measure=>have:=HK1.out;omega
   case rel=>exact ⟨(wrap64 (ac+1)),zY3,H',⟨by have:=HK1.out;omega⟩,by repeat (first|exact Drawn0.refl _|apply Drawn0.step)⟩
mutual
def spec_l1Cut.l0:Nat→ByteArray→Int→Int→List ByteArray→Int→Int→Option (List ByteArray)
 | 0,_,_,_,_,_,_=>none
 | k+1,x0,x1,x2,x7,x8,x9=>if x9 < (x0.size:Int) then (spec_l1Cut.j1 k x0 x1 x2 x7 x8 x9 (decide ((x7.length:Int) < x2))) else (spec_l1Cut.j1 k x0 x1 x2 x7 x8 x9 false)
def spec_l1Cut.j1:Nat→ByteArray→Int→Int→List ByteArray→Int→Int→Bool→Option (List ByteArray)
 | 0,_,_,_,_,_,_,_=>none
 | k+1,x0,x1,x2,x7,x8,x9,Dg=>if Dg=true then (if 0≤x9 then (if x9 < (x0.size:Int) then (if (bt x0 x9)=x1 then (if 0≤x8 then (if x8≤x9 then (if x9≤(x0.size:Int) then (if x7.length < 8796093022208 then (spec_l1Cut.l0 k x0 x1 x2 (x7++[x0.extract (x8:Int).toNat (x9:Int).toNat]) (wrap64 (x9+1)) (wrap64 (x9+1))) else (none)) else (none)) else (none)) else (none)) else (spec_l1Cut.l0 k x0 x1 x2 x7 x8 (wrap64 (x9+1)))) else (none)) else (none)) else (if 0≤x8 then (if x8≤(x0.size:Int) then (if x7.length < 8796093022208 then (some (x7++[x0.extract (x8:Int).toNat x0.size])) else (none)) else (none)) else (none))
end
def spec_l1Cut.f (k:Nat) (a0:ByteArray) (a1:Int) (a2:Int):Option (List ByteArray):=spec_l1Cut.l0 k a0 a1 a2 (([]:List ByteArray)) 0 0
set_option maxHeartbeats 8000000 in
set_option maxRecDepth 100000 in
theorem spec_l1Cut.calls (k:Nat) (a0:ByteArray) (a1:Int) (a2:Int) (r:List ByteArray) (w:World) (h:spec_l1Cut.f k a0 a1 a2=some r) :
 Calls Tryz.prog 78 #[.string a0,.int .u8 a1,.int .i64 a2] w fun e w'=>∃ fO:Value,e=.returned (fO)∧Kd.R Kd.string 9 w' w.heap.size (fun _=>True) fO r∧Below w.heap.size w w':=by
 have HB:=zA (Below.refl w.heap.size w)
 have H:(spec_l1Cut.l0 k a0 a1 a2 (([]:List ByteArray)) 0 0)=some r:=h
 clear h
 obtain ⟨yP,ta⟩:∃ y_:List ByteArray,y_=(([]:List ByteArray)):=⟨_,rfl⟩
 replace H:(spec_l1Cut.l0 k a0 a1 a2 yP 0 0)=some r:=zX ta H
 have yQ:=zA ta
 clear ta
 have H':=zA H
 clear H
 go_enter Tryz.func78,Tryz.ntmps78
 go_wp2_with (first|((with_reducible refine zq5 (N:=10) rfl ?_);(try (refine gate_guard zY30 ?_;dsimp only));refine Kd.R_lit Kd.string _ 9 ?hg (N:=10) ?hd (xs:=([]:List ByteArray)) (inner:=[]) (ok:=fun _=>True) (okp:=fun _=>True) ?hr ?hp (fun _ hk=>hk) trivial (Below.refl _ _) (Nat.le_refl _) (by simp) ?_;(case hd=>rfl);(case hg=>rfl);(case hr=>first|(go_simp;done)|(go_simp;rfl));(case hp=>exact (Reps.none _ _));intro Dh w4 nA hb hg_ hnew_;clear hg_ hnew_;(first|rw [← yQ.out] at nA|(simp only [Int.reduceToNat] at nA;rw [← yQ.out] at nA));have nB:=zA (Kd.z6 nA (zq7 zB));replace HB:=zA (zq0 zB hb);clear hb nA))
 go_loopg [7,8,9] k (fun kq v7 v8 v9 w'=>∃ (aU:List ByteArray) (aq:Int) (dP:Int),v8=.int .i64 aq∧v9=.int .i64 dP∧Aside0 (spec_l1Cut.l0 kq a0 a1 a2 aU aq dP=some r)∧Aside0 (kq≤k)∧Aside0 (Kd.R Kd.string 9 w' w.heap.size (fun _=>True) v7 aU)∧Aside0 (Below w.heap.size w w'))
 case atStart=>exact ⟨(yP),(0),(0),zY3,zY3,H',⟨Nat.le_refl _⟩,⟨zVR nB.out⟩,⟨zB⟩⟩
 case round =>
  clear H'
  try clear p2
  obtain ⟨aU,aq,dP,rfl,rfl,HA,HK1,jE,HB⟩:=hrel
  cases gk with
  | zero=>exact absurd HA.out (by simp [spec_l1Cut.l0])
  | succ k1 =>
   have H:=HA.out
   clear HA
   simp only [spec_l1Cut.l0] at H
   have lm:=zA H
   clear H
   go_upto_region 4 with (fail)
   go_cut [20] (fun Di wc=>∃ (kq:Nat) (qk:Bool),Di=.bool qk∧Aside0 (spec_l1Cut.j1 kq a0 a1 a2 aU aq dP qk=some r)∧Aside0 (kq≤k1)∧Aside0 (Kd.R Kd.string 9 wc w.heap.size (fun _=>True) u7 aU)∧Aside0 (Below w.heap.size w wc))
   case first =>
    have H:=lm.out
    clear lm
    by_cases c7:dP < (a0.size:Int)
    rotate_left
    ·rw [if_neg c7] at H
     have c7b0:decide (dP < (a0.size:Int))=false:=decide_eq_false c7
     clear c7
     (first|rw [c7b0]|(simp only [i64_w,i32_w];rw [c7b0])|skip)
     have H':=zA H
     clear H
     go_wp2
     go_meet
     case rel=>exact ⟨_,(false),zY3,H',⟨by have:=HK1.out;first|omega|exact Nat.le_refl _⟩,⟨zVR jE.out⟩,⟨zB⟩⟩
    rw [if_pos c7] at H
    have c7b0:decide (dP < (a0.size:Int))=true:=decide_eq_true c7
    clear c7
    (first|rw [c7b0]|(simp only [i64_w,i32_w];rw [c7b0])|skip)
    have H':=zA H
    clear H
    obtain ⟨yR,ql,nC⟩:=Kd.z9 jE.out
    subst nC
    go_wp2
    go_meet
    case rel=>exact ⟨_,(decide ((aU.length:Int) < a2)),zY3,H',⟨by have:=HK1.out;first|omega|exact Nat.le_refl _⟩,⟨zVR jE.out⟩,⟨zB⟩⟩
   case rest =>
    clear lm
    try clear p2
    try clear c7
    try clear c7b0
    try clear p2
    obtain ⟨kq,qk,rfl,HA,HJ5,jE,HB⟩:=hcut
    cases kq with
    | zero=>exact absurd HA.out (by simp [spec_l1Cut.j1])
    | succ kj5 =>
     have H:=HA.out
     clear HA
     simp only [spec_l1Cut.j1] at H
     by_cases c9:qk=true
     rotate_left
     ·replace c9:=Bool.eq_false_iff.mpr c9
      subst c9
      rw [if_neg zfn] at H
      obtain ⟨cL,H⟩:=zp H
      have c19b0:=eq_true cL
      have c19b1:decide (0≤aq)=true:=decide_eq_true cL
      clear cL
      obtain ⟨ch,H⟩:=zp H
      have c20b0:=eq_true ch
      have c20b1:decide (aq≤(a0.size:Int))=true:=decide_eq_true ch
      clear ch
      obtain ⟨dQ,H⟩:=zp H
      have LMc21:=zA dQ
      clear dQ
      obtain ⟨Dj,tb⟩:∃ y_:List ByteArray,y_=(aU++[a0.extract (aq:Int).toNat a0.size]):=⟨_,rfl⟩
      replace H:(some Dj)=some r:=zX tb H
      have Dk:=zA tb
      clear tb
      obtain rfl:=Option.some.inj H
      go_wp2_with (first|((with_reducible refine gate_builtin (b:=.append) (xs:=#[.tmp 37,.tmp 41]) rfl ?_);(try (refine gate_guard zY30 ?_;dsimp only));at_builtin;refine Kd.R_append Kd.string (w0:=w) w.heap.size rfl (.tmp 37) (.tmp 41) 26 9 (.string ⟨#[]⟩) 16 rfl Tryz.underlying26 info9 rfl zY4 zY6 u7 aU (a0.extract (aq:Int).toNat a0.size) [.string (a0.extract (aq:Int).toNat a0.size)] (fun _=>True) (fun _=>False) rfl rfl ?aP (fun _ hk=>hk.elim) ?aF ?aO ?aB ?aS ?aL ?_;(case aP=>exact rfl);(case aB=>exact zB);(case aF=>exact (fun _ _=>trivial));(case aO=>exact (zVR jE.out));(case aS=>exact (zq7 zB));(case aL=>have:=LMc21.out;omega);intro Mu qm ho hb hg hat;rw [← Dk.out] at ho;have aQ:=zA (hb);have aR:=zA (ho);clear HB;clear jE;have HB:=aQ;have Dl:=aR;clear aQ aR;clear ho hb hg hat))
      go_ret
      exact ⟨_,zT,by (with_reducible repeat (first|apply Kd.z1|apply Kd.z4|apply Kd.z3));exact Dl.out,zB⟩
     subst c9
     rw [if_pos rfl] at H
     obtain ⟨ce,H⟩:=zp H
     have c10b0:decide (0≤dP)=true:=decide_eq_true ce
     clear ce
     obtain ⟨dI,H⟩:=zp H
     have c11b0:decide (dP < (a0.size:Int))=true:=decide_eq_true dI
     clear dI
     by_cases bj:(bt a0 dP)=a1
     rotate_left
     ·rw [if_neg bj] at H
      have c13b0:((bt a0 dP)==a1)=false:=beq_eq_false_iff_ne.mpr bj
      have c13b1:((bt a0 dP) != a1)=true:=bne_iff_ne.mpr bj
      have H':=zA H
      clear H
      have gy:0≤(dP:Int):=of_decide_eq_true zY1
      have gz:dP < (a0.size:Int):=of_decide_eq_true zY1
      have qj:=bt_at a0 dP
      replace gy:=eq_true gy
      replace gz:=eq_true gz
      go_wp2
      go_roundg kj5
      case measure=>have:=HK1.out;have:=HJ5.out;omega
      case rel=>exact ⟨(aU),(aq),(wrap64 (dP+1)),zY3,zY3,H',⟨by have:=HK1.out;have:=HJ5.out;omega⟩,⟨zVR jE.out⟩,⟨zB⟩⟩
     rw [if_pos bj] at H
     have c13b0:((bt a0 dP)==a1)=true:=beq_iff_eq.mpr bj
     have c13b1:((bt a0 dP) != a1)=false:=bne_eq_false_iff_eq.mpr bj
     clear bj
     obtain ⟨bB,H⟩:=zp H
     have c14b0:=eq_true bB
     have c14b1:decide (0≤aq)=true:=decide_eq_true bB
     clear bB
     obtain ⟨bW,H⟩:=zp H
     have c15b0:=eq_true bW
     have c15b1:decide (aq≤dP)=true:=decide_eq_true bW
     clear bW
     obtain ⟨ck,H⟩:=zp H
     have c16b0:=eq_true ck
     have c16b1:decide (dP≤(a0.size:Int))=true:=decide_eq_true ck
     clear ck
     obtain ⟨e7,H⟩:=zp H
     have LMc17:=zA e7
     clear e7
     obtain ⟨yS,tc⟩:∃ y_:List ByteArray,y_=(aU++[a0.extract (aq:Int).toNat (dP:Int).toNat]):=⟨_,rfl⟩
     replace H:(spec_l1Cut.l0 kj5 a0 a1 a2 yS (wrap64 (dP+1)) (wrap64 (dP+1)))=some r:=zX tc H
     have Dm:=zA tc
     clear tc
     have H':=zA H
     clear H
     have gy:0≤(dP:Int):=of_decide_eq_true zY1
     have gz:dP < (a0.size:Int):=of_decide_eq_true zY1
     have qj:=bt_at a0 dP
     replace gy:=eq_true gy
     replace gz:=eq_true gz
     go_wp2_with (first|((with_reducible refine gate_builtin (b:=.append) (xs:=#[.tmp 28,.tmp 33]) rfl ?_);(try (refine gate_guard zY30 ?_;dsimp only));at_builtin;refine Kd.R_append Kd.string (w0:=w) w.heap.size rfl (.tmp 28) (.tmp 33) 26 9 (.string ⟨#[]⟩) 16 rfl Tryz.underlying26 info9 rfl zY4 zY6 u7 aU (a0.extract (aq:Int).toNat (dP:Int).toNat) [.string (a0.extract (aq:Int).toNat (dP:Int).toNat)] (fun _=>True) (fun _=>False) rfl rfl ?aP (fun _ hk=>hk.elim) ?aF ?aO ?aB ?aS ?aL ?_;(case aP=>exact rfl);(case aB=>exact zB);(case aF=>exact (fun _ _=>trivial));(case aO=>exact (zVR jE.out));(case aS=>exact (zq7 zB));(case aL=>have:=LMc17.out;omega);intro Mv jD ho hb hg hat;rw [← Dm.out] at ho;have aQ:=zA (hb);have aR:=zA (ho);clear HB;clear jE;have HB:=aQ;have Dn:=aR;clear aQ aR;clear ho hb hg hat))
     go_roundg kj5
     case measure=>have:=HK1.out;have:=HJ5.out;omega
     case rel=>exact ⟨(yS),(wrap64 (dP+1)),(wrap64 (dP+1)),zY3,zY3,H',⟨by have:=HK1.out;have:=HJ5.out;omega⟩,⟨zVR Dn.out⟩,⟨zB⟩⟩
end Go.Proofs.YtjdpdkdhfnpcgaaGreatDoor.Q
