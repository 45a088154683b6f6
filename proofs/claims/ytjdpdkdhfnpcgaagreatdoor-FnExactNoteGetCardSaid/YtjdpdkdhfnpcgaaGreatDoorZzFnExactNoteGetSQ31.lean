/- Of a text of ours what this claim needs. -/
import Derived.Test.YtjdpdkdhfnpcgaaGreatDoorZzFnExactNoteGetSQ0
import Derived.Test.YtjdpdkdhfnpcgaaGreatDoorZzFnExactNoteGetSAu
import Derived.Test.YtjdpdkdhfnpcgaaGreatDoorZzFnExactNoteGetSQ29
import Derived.Test.YtjdpdkdhfnpcgaaGreatDoorZzFnExactNoteGetSQ30
namespace Go.Proofs.YtjdpdkdhfnpcgaaGreatDoor.Q
open Go.RowKit Go.Proofs.YtjdpdkdhfnpcgaaGreatDoorW.PrintWords Go.Proofs.YtjdpdkdhfnpcgaaGreatDoorW.PrintLast Go.Proofs.YtjdpdkdhfnpcgaaGreatDoorW.PrintMore
attribute [local go_sem] max2_int min2_int max_two min_two max_three min_three max_four min_four
set_option linter.unusedVariables false
set_option linter.unusedSimpArgs false
def laws_heldStringS.l0:Nat→List ByteArray→Int→Int→Option (Int)
 | 0,_,_,_=>none
 | k+1,x0,x1,x5=>if x5 < (x0.length:Int) then (if 0≤x5 then ((laws_markText.f k x1).bind fun ai=>(if (rdOf ByteArray.empty x0 x5).toList=ai.toList then (laws_heldStringS.l0 k x0 (wrap64 (x1+1)) (wrap64 (x5+1))) else (some (-1)))) else (none)) else (some x1)
def laws_heldStringS.f (k:Nat) (l0:List ByteArray) (a1:Int):Option (Int):=laws_heldStringS.l0 k l0 a1 0
set_option maxHeartbeats 8000000 in
set_option maxRecDepth 100000 in
theorem laws_heldStringS.calls (k:Nat) (A0:Option Addr) (c0:Nat) (l0:List ByteArray) (a1:Int) (r:Int) (w:World) (dr:Kd.C Kd.string w A0 l0.length l0) (dt:l0.length≤c0) (h:laws_heldStringS.f k l0 a1=some r) :
 Calls Tryz.prog 87 #[.slice A0 l0.length c0,.int .i64 a1] w fun e w'=>e=.returned (.int .i64 r)∧Below w.heap.size w w':=by
 have cW:=zA dr
 have fH:=zA dt
 clear dr dt
 have HB:=zA (Below.refl w.heap.size w)
 have H:(laws_heldStringS.l0 k l0 a1 0)=some r:=h
 clear h
 have H':=zA H
 clear H
 go_enter Tryz.func87,Tryz.ntmps87
 go_wp2
 go_loopg [1,5] k (fun kq v1 v5 w'=>∃ (cD:Int) (ae:Int),v1=.int .i64 cD∧v5=.int .i64 ae∧Aside0 (laws_heldStringS.l0 kq l0 cD ae=some r)∧Aside0 (kq≤k)∧Aside0 (Below w.heap.size w w'))
 case atStart=>exact ⟨(a1),(0),zY3,zY3,H',⟨Nat.le_refl _⟩,⟨zB⟩⟩
 case round =>
  clear H'
  try clear p2
  obtain ⟨cD,ae,rfl,rfl,HA,HK1,HB⟩:=hrel
  cases gk with
  | zero=>exact absurd HA.out (by simp [laws_heldStringS.l0])
  | succ k1 =>
   have H:=HA.out
   clear HA
   simp only [laws_heldStringS.l0] at H
   by_cases c3:ae < (l0.length:Int)
   rotate_left
   ·rw [if_neg c3] at H
    have c3b0:decide (ae < (l0.length:Int))=false:=decide_eq_false c3
    clear c3
    obtain rfl:=Option.some.inj H
    go_wp2
    go_ret
    exact ⟨zT,zB⟩
   rw [if_pos c3] at H
   have c3b0:decide (ae < (l0.length:Int))=true:=decide_eq_true c3
   clear c3
   obtain ⟨c4,H⟩:=zp H
   have c4b0:decide (0≤ae)=true:=decide_eq_true c4
   clear c4
   replace H:=Option.bind_eq_some_iff.mp H
   obtain ⟨ai,dS,H⟩:=H
   try dsimp only at H
   have A5:=zA dS
   clear dS
   by_cases c6:(rdOf ByteArray.empty l0 ae).toList=ai.toList
   rotate_left
   ·rw [if_neg c6] at H
    have c6b0:((rdOf ByteArray.empty l0 ae).toList==ai.toList)=false:=beq_eq_false_iff_ne.mpr c6
    have c6b1:((rdOf ByteArray.empty l0 ae).toList != ai.toList)=true:=bne_iff_ne.mpr c6
    obtain rfl:=Option.some.inj H
    try go_wp2
    replace HB:=zA (below_drew1 HB.out)
    have ft:0≤(ae:Int):=of_decide_eq_true zY1
    have fv:ae < (l0.length:Int):=of_decide_eq_true zY1
    obtain ⟨ez,ke,dX⟩:=Kd.z11 cW.out ae ft fv
    have eo:=dX
    cases ke
    replace dX:=(HB.out.cell (World.block_lt_of_cell? w _ dX)).trans dX
    replace ft:=eq_true ft
    replace fv:=eq_true fv
    refine start_ (n:=7) (S:=fun w'=>w'.cell? (ez.add (ae).toNat)=some (.string (rdOf ByteArray.empty l0 ae))) (ds:=[]) #[false,false,false,false,false,false,false] zY2 rfl rfl (((HB.out.cell (World.block_lt_of_cell? w _ eo)).trans eo)) (fun hHeld=>?_)
    generalize wr.drew=w9 at HB dX hHeld ⊢
    refine pure_ (i:=0) (N:=some 12) (v:=?_) (a':=?_) #[true,false,false,false,false,false,false] rfl rfl zY2 (fun _ _ _ h=>h) (Or.inl ⟨by rfl,?_⟩) ?_ ?_
    rotate_left
    ·intro w'
     go_simp
     with_reducible rfl
    rotate_left
    ·simp only [Act.put,zL0,zL1,zL2,i64_w,i32_w]
     rfl
    refine pure_ (i:=1) (N:=some 13) (v:=?_) (a':=?_) #[true,true,false,false,false,false,false] rfl rfl zY2 (fun _ _ _ h=>h) (Or.inl ⟨by rfl,?_⟩) ?_ ?_
    rotate_left
    ·intro w'
     go_simp
     with_reducible rfl
    rotate_left
    ·simp only [Act.put,zL0,zL1,zL2,i64_w,i32_w]
     rfl
    refine pure_ (i:=2) (N:=some 14) (v:=?_) (a':=?_) #[true,true,true,false,false,false,false] rfl rfl zY2 (fun _ _ _ h=>h) (Or.inl ⟨by rfl,?_⟩) ?_ ?_
    rotate_left
    ·intro w'
     go_simp
     with_reducible rfl
    rotate_left
    ·simp only [Act.put,zL0,zL1,zL2,i64_w,i32_w]
     rfl
    refine pure_ (i:=4) (N:=some 16) (v:=?_) (a':=?_) #[true,true,true,false,true,false,false] rfl rfl zY2 (fun _ _ _ h=>h) (Or.inl ⟨by rfl,?_⟩) ?_ ?_
    rotate_left
    ·intro w'
     go_simp
     with_reducible rfl
    rotate_left
    ·simp only [Act.put,zL0,zL1,zL2,i64_w,i32_w]
     rfl
    refine take_ (i:=3) (N:=some 15) (v:=?_) (a':=?_) #[true,true,true,true,true,false,false] rfl rfl zY2 (fun _ _ _ h=>h) (Or.inl ⟨by rfl,?_⟩) hHeld ?_ ?_
    rotate_left
    ·intro w' s0
     go_simp
     with_reducible rfl
    rotate_left
    ·simp only [Act.put,zL0,zL1,zL2,i64_w,i32_w]
     rfl
    refine one_ (i:=5) (N:=some 17) #[true,true,true,true,true,true,false] rfl rfl zY2 zY4 (fun K hK=>?_)
    refine goes_ Tryz.func129 zY2 rfl #[.int .i64 cD] zY30 rfl rfl zY0 ?_
    with_reducible refine (laws_markText.calls k1 cD ai _ A5.out).mono ?_
    rintro e cv ⟨rfl,hb⟩
    refine ⟨_,rfl,?_⟩
    replace HB:=zA (zq0 zB hb)
    (try clear hb)
    refine hK.out _ _ (((HB.out.cell (World.block_lt_of_cell? w _ eo)).trans eo)) (fun hHeld=>?_)
    clear hK K
    refine norm_ (a':=?_) ?_ ?_
    rotate_left
    ·show Act.put _ (some 17) _=_
     simp only [Act.put,zL0,zL1,zL2,i64_w,i32_w]
     rfl
    refine pure_ (i:=6) (N:=some 18) (v:=?_) (a':=?_) #[true,true,true,true,true,true,true] rfl rfl zY2 (fun _ _ _ h=>h) (Or.inl ⟨by rfl,?_⟩) ?_ ?_
    rotate_left
    ·intro w'
     go_simp
     with_reducible rfl
    rotate_left
    ·simp only [Act.put,zL0,zL1,zL2,i64_w,i32_w]
     rfl
    refine done_ zY2 ?_
    try go_wp2
    go_ret
    exact ⟨zT,zB⟩
   rw [if_pos c6] at H
   have c6b0:((rdOf ByteArray.empty l0 ae).toList==ai.toList)=true:=beq_iff_eq.mpr c6
   have c6b1:((rdOf ByteArray.empty l0 ae).toList != ai.toList)=false:=bne_eq_false_iff_eq.mpr c6
   clear c6
   have H':=zA H
   clear H
   try go_wp2
   replace HB:=zA (below_drew1 HB.out)
   have ft:0≤(ae:Int):=of_decide_eq_true zY1
   have fv:ae < (l0.length:Int):=of_decide_eq_true zY1
   obtain ⟨ez,ke,dX⟩:=Kd.z11 cW.out ae ft fv
   have eo:=dX
   cases ke
   replace dX:=(HB.out.cell (World.block_lt_of_cell? w _ dX)).trans dX
   replace ft:=eq_true ft
   replace fv:=eq_true fv
   refine start_ (n:=7) (S:=fun w'=>w'.cell? (ez.add (ae).toNat)=some (.string (rdOf ByteArray.empty l0 ae))) (ds:=[]) #[false,false,false,false,false,false,false] zY2 rfl rfl (((HB.out.cell (World.block_lt_of_cell? w _ eo)).trans eo)) (fun hHeld=>?_)
   generalize wr.drew=w7 at HB dX hHeld ⊢
   refine pure_ (i:=0) (N:=some 12) (v:=?_) (a':=?_) #[true,false,false,false,false,false,false] rfl rfl zY2 (fun _ _ _ h=>h) (Or.inl ⟨by rfl,?_⟩) ?_ ?_
   rotate_left
   ·intro w'
    go_simp
    with_reducible rfl
   rotate_left
   ·simp only [Act.put,zL0,zL1,zL2,i64_w,i32_w]
    rfl
   refine pure_ (i:=1) (N:=some 13) (v:=?_) (a':=?_) #[true,true,false,false,false,false,false] rfl rfl zY2 (fun _ _ _ h=>h) (Or.inl ⟨by rfl,?_⟩) ?_ ?_
   rotate_left
   ·intro w'
    go_simp
    with_reducible rfl
   rotate_left
   ·simp only [Act.put,zL0,zL1,zL2,i64_w,i32_w]
    rfl
   refine pure_ (i:=2) (N:=some 14) (v:=?_) (a':=?_) #[true,true,true,false,false,false,false] rfl rfl zY2 (fun _ _ _ h=>h) (Or.inl ⟨by rfl,?_⟩) ?_ ?_
   rotate_left
   ·intro w'
    go_simp
    with_reducible rfl
   rotate_left
   ·simp only [Act.put,zL0,zL1,zL2,i64_w,i32_w]
    rfl
   refine pure_ (i:=4) (N:=some 16) (v:=?_) (a':=?_) #[true,true,true,false,true,false,false] rfl rfl zY2 (fun _ _ _ h=>h) (Or.inl ⟨by rfl,?_⟩) ?_ ?_
   rotate_left
   ·intro w'
    go_simp
    with_reducible rfl
   rotate_left
   ·simp only [Act.put,zL0,zL1,zL2,i64_w,i32_w]
    rfl
   refine take_ (i:=3) (N:=some 15) (v:=?_) (a':=?_) #[true,true,true,true,true,false,false] rfl rfl zY2 (fun _ _ _ h=>h) (Or.inl ⟨by rfl,?_⟩) hHeld ?_ ?_
   rotate_left
   ·intro w' s0
    go_simp
    with_reducible rfl
   rotate_left
   ·simp only [Act.put,zL0,zL1,zL2,i64_w,i32_w]
    rfl
   refine one_ (i:=5) (N:=some 17) #[true,true,true,true,true,true,false] rfl rfl zY2 zY4 (fun K hK=>?_)
   refine goes_ Tryz.func129 zY2 rfl #[.int .i64 cD] zY30 rfl rfl zY0 ?_
   with_reducible refine (laws_markText.calls k1 cD ai _ A5.out).mono ?_
   rintro e w8 ⟨rfl,hb⟩
   refine ⟨_,rfl,?_⟩
   replace HB:=zA (zq0 zB hb)
   (try clear hb)
   refine hK.out _ _ (((HB.out.cell (World.block_lt_of_cell? w _ eo)).trans eo)) (fun hHeld=>?_)
   clear hK K
   refine norm_ (a':=?_) ?_ ?_
   rotate_left
   ·show Act.put _ (some 17) _=_
    simp only [Act.put,zL0,zL1,zL2,i64_w,i32_w]
    rfl
   refine pure_ (i:=6) (N:=some 18) (v:=?_) (a':=?_) #[true,true,true,true,true,true,true] rfl rfl zY2 (fun _ _ _ h=>h) (Or.inl ⟨by rfl,?_⟩) ?_ ?_
   rotate_left
   ·intro w'
    go_simp
    with_reducible rfl
   rotate_left
   ·simp only [Act.put,zL0,zL1,zL2,i64_w,i32_w]
    rfl
   refine done_ zY2 ?_
   try go_wp2
   go_roundg k1
   case measure=>have:=HK1.out;omega
   case rel=>exact ⟨(wrap64 (cD+1)),(wrap64 (ae+1)),zY3,zY3,H',⟨by have:=HK1.out;omega⟩,⟨zB⟩⟩
def laws_heldMail.f (k:Nat) (aa:ByteArray) (ab:ByteArray) (af:List (S24)) (ap:List ByteArray) (a1:Int):Option (Int):=(laws_heldAddrS.f k af a1).bind fun cp=>(if cp < 0 then (some (-1)) else ((laws_heldStringS.f k ap cp).bind fun gl=>(if gl < 0 then (some (-1)) else (some gl))))
set_option maxHeartbeats 8000000 in
set_option maxRecDepth 100000 in
theorem laws_heldMail.calls (k:Nat) (aa:ByteArray) (ab:ByteArray) (b9:Option Addr) (b4:Nat) (af:List (S24)) (b5:Option Addr) (b6:Nat) (ap:List ByteArray) (a1:Int) (r:Int) (w:World) (eX:Kd.C k24 w b9 af.length af) (eY:af.length≤b4) (eZ:Kd.C Kd.string w b5 ap.length ap) (e5:ap.length≤b6) (h:laws_heldMail.f k aa ab af ap a1=some r) :
 Calls Tryz.prog 43 #[.agg #[.string aa,.string ab,.slice b9 af.length b4,.slice b5 ap.length b6],.int .i64 a1] w fun e w'=>e=.returned (.int .i64 r)∧Below w.heap.size w w':=by
 have hu28:=Tryz.underlying28
 have d6:=zA eX
 have fe:=zA eY
 clear eX eY
 have eP:=zA eZ
 have eQ:=zA e5
 clear eZ e5
 have HB:=zA (Below.refl w.heap.size w)
 have H:((laws_heldAddrS.f k af a1).bind fun cp=>(if cp < 0 then (some (-1)) else ((laws_heldStringS.f k ap cp).bind fun gl=>(if gl < 0 then (some (-1)) else (some gl)))))=some r:=h
 clear h
 replace H:=Option.bind_eq_some_iff.mp H
 obtain ⟨cp,bu,H⟩:=H
 try dsimp only at H
 have A3:=zA bu
 clear bu
 by_cases c4:cp < 0
 ·rw [if_pos c4] at H
  have c4b0:decide (cp < 0)=true:=decide_eq_true c4
  clear c4
  obtain rfl:=Option.some.inj H
  go_enter Tryz.func43,Tryz.ntmps43
  go_wp2_with (first|((with_reducible refine zq5 (N:=2) rfl ?_);refine zE (N:=2) (cs:=#[.string aa,.string ab,.slice b9 af.length b4,.slice b5 ap.length b6]) (t:=28) ?_;intro cr hg w5 hbox hb;have aJ:=zA hbox;have m9:=zA (zS hg:w.heap.size≤cr);have na:=zA (zS hg:w.heap.size≤cr);replace HB:=zA (zq0 zB hb);clear hb hbox hg;obtain ⟨_,_,_,_⟩:=zc4 aJ.out;obtain ⟨_,_,_,_⟩:=zf4 aJ.out)|((with_reducible refine zq2 (f:=86) rfl ?_);refine zq4 (some 8) rfl rfl Tryz.func86 zY2 rfl #[.slice b9 af.length b4,.int .i64 a1] rfl zY0 ?_;(with_reducible refine (laws_heldAddrS.calls k _ _ af a1 cp _ ?side1 ?side2 A3.out).mono ?_);(case side1=>exact zC (Kd.z0 d6.out HB.out));(case side2=>exact fe.out);rintro e w7 ⟨rfl,hb⟩;refine ⟨_,rfl,?_⟩;replace aJ:=zA (zq1 (zK aJ.out) hb);replace HB:=zA (zq0 zB hb);clear hb))
  go_ret
  exact ⟨zT,zB⟩
 rw [if_neg c4] at H
 have c4b0:decide (cp < 0)=false:=decide_eq_false c4
 clear c4
 replace H:=Option.bind_eq_some_iff.mp H
 obtain ⟨gl,e6,H⟩:=H
 try dsimp only at H
 have A8:=zA e6
 clear e6
 by_cases c9:gl < 0
 ·rw [if_pos c9] at H
  have c9b0:decide (gl < 0)=true:=decide_eq_true c9
  clear c9
  obtain rfl:=Option.some.inj H
  go_enter Tryz.func43,Tryz.ntmps43
  go_wp2_with (first|((with_reducible refine zq5 (N:=2) rfl ?_);refine zE (N:=2) (cs:=#[.string aa,.string ab,.slice b9 af.length b4,.slice b5 ap.length b6]) (t:=28) ?_;intro cr hg cv hbox hb;have aJ:=zA hbox;have m9:=zA (zS hg:w.heap.size≤cr);have na:=zA (zS hg:w.heap.size≤cr);replace HB:=zA (zq0 zB hb);clear hb hbox hg;obtain ⟨_,_,_,_⟩:=zc4 aJ.out;obtain ⟨_,_,_,_⟩:=zf4 aJ.out)|((with_reducible refine zq2 (f:=86) rfl ?_);refine zq4 (some 8) rfl rfl Tryz.func86 zY2 rfl #[.slice b9 af.length b4,.int .i64 a1] rfl zY0 ?_;(with_reducible refine (laws_heldAddrS.calls k _ _ af a1 cp _ ?side1 ?side2 A3.out).mono ?_);(case side1=>exact zC (Kd.z0 d6.out HB.out));(case side2=>exact fe.out);rintro e gx ⟨rfl,hb⟩;refine ⟨_,rfl,?_⟩;replace aJ:=zA (zq1 (zK aJ.out) hb);replace HB:=zA (zq0 zB hb);clear hb;obtain ⟨_,_,_,_⟩:=zc4 aJ.out;obtain ⟨_,_,_,_⟩:=zf4 aJ.out)|((with_reducible refine zq2 (f:=87) rfl ?_);refine zq4 (some 14) rfl rfl Tryz.func87 zY2 rfl #[.slice b5 ap.length b6,.int .i64 cp] rfl zY0 ?_;(with_reducible refine (laws_heldStringS.calls k _ _ ap cp gl _ ?side1 ?side2 A8.out).mono ?_);(case side1=>exact zC (Kd.z0 eP.out HB.out));(case side2=>exact eQ.out);rintro e jy ⟨rfl,hb⟩;refine ⟨_,rfl,?_⟩;replace aJ:=zA (zq1 (zK aJ.out) hb);replace HB:=zA (zq0 zB hb);clear hb))
  go_ret
  exact ⟨zT,zB⟩
 rw [if_neg c9] at H
 have c9b0:decide (gl < 0)=false:=decide_eq_false c9
 clear c9
 obtain rfl:=Option.some.inj H
 go_enter Tryz.func43,Tryz.ntmps43
 go_wp2_with (first|((with_reducible refine zq5 (N:=2) rfl ?_);refine zE (N:=2) (cs:=#[.string aa,.string ab,.slice b9 af.length b4,.slice b5 ap.length b6]) (t:=28) ?_;intro cr hg ic hbox hb;have aJ:=zA hbox;have m9:=zA (zS hg:w.heap.size≤cr);have na:=zA (zS hg:w.heap.size≤cr);replace HB:=zA (zq0 zB hb);clear hb hbox hg;obtain ⟨_,_,_,_⟩:=zc4 aJ.out;obtain ⟨_,_,_,_⟩:=zf4 aJ.out)|((with_reducible refine zq2 (f:=86) rfl ?_);refine zq4 (some 8) rfl rfl Tryz.func86 zY2 rfl #[.slice b9 af.length b4,.int .i64 a1] rfl zY0 ?_;(with_reducible refine (laws_heldAddrS.calls k _ _ af a1 cp _ ?side1 ?side2 A3.out).mono ?_);(case side1=>exact zC (Kd.z0 d6.out HB.out));(case side2=>exact fe.out);rintro e jz ⟨rfl,hb⟩;refine ⟨_,rfl,?_⟩;replace aJ:=zA (zq1 (zK aJ.out) hb);replace HB:=zA (zq0 zB hb);clear hb;obtain ⟨_,_,_,_⟩:=zc4 aJ.out;obtain ⟨_,_,_,_⟩:=zf4 aJ.out)|((with_reducible refine zq2 (f:=87) rfl ?_);refine zq4 (some 14) rfl rfl Tryz.func87 zY2 rfl #[.slice b5 ap.length b6,.int .i64 cp] rfl zY0 ?_;(with_reducible refine (laws_heldStringS.calls k _ _ ap cp gl _ ?side1 ?side2 A8.out).mono ?_);(case side1=>exact zC (Kd.z0 eP.out HB.out));(case side2=>exact eQ.out);rintro e eS ⟨rfl,hb⟩;refine ⟨_,rfl,?_⟩;replace aJ:=zA (zq1 (zK aJ.out) hb);replace HB:=zA (zq0 zB hb);clear hb))
 go_ret
 exact ⟨zT,zB⟩
def laws_heldNote.f (k:Nat) (aa:Int) (ab:Int) (aC:ByteArray) (aD:ByteArray) (aE:Int) (av:ByteArray) (aw:ByteArray) (al:List (S24)) (an:List ByteArray) (a1:Int):Option (Int):=(laws_heldMail.f k av aw al an a1).bind fun d9=>(if d9 < 0 then (some (-1)) else (some d9))
set_option maxHeartbeats 8000000 in
set_option maxRecDepth 100000 in
theorem laws_heldNote.calls (k:Nat) (aa:Int) (ab:Int) (aC:ByteArray) (aD:ByteArray) (aE:Int) (av:ByteArray) (aw:ByteArray) (bS:Option Addr) (bT:Nat) (al:List (S24)) (bU:Option Addr) (bV:Nat) (an:List ByteArray) (a1:Int) (r:Int) (w:World) (fK:Kd.C k24 w bS al.length al) (fL:al.length≤bT) (fM:Kd.C Kd.string w bU an.length an) (fN:an.length≤bV) (h:laws_heldNote.f k aa ab aC aD aE av aw al an a1=some r) :
 Calls Tryz.prog 17 #[.agg #[.int .i64 aa,.int .i64 ab,.string aC,.string aD,.int .i64 aE,.string av,.string aw,.slice bS al.length bT,.slice bU an.length bV],.int .i64 a1] w fun e w'=>e=.returned (.int .i64 r)∧Below w.heap.size w w':=by
 have hu30:=Tryz.underlying30
 have hu28:=Tryz.underlying28
 have eC:=zA fK
 have eD:=zA fL
 clear fK fL
 have eE:=zA fM
 have eF:=zA fN
 clear fM fN
 have HB:=zA (Below.refl w.heap.size w)
 have H:((laws_heldMail.f k av aw al an a1).bind fun d9=>(if d9 < 0 then (some (-1)) else (some d9)))=some r:=h
 clear h
 replace H:=Option.bind_eq_some_iff.mp H
 obtain ⟨d9,bu,H⟩:=H
 try dsimp only at H
 have A3:=zA bu
 clear bu
 by_cases c4:d9 < 0
 ·rw [if_pos c4] at H
  have c4b0:decide (d9 < 0)=true:=decide_eq_true c4
  clear c4
  obtain rfl:=Option.some.inj H
  go_enter Tryz.func17,Tryz.ntmps17
  go_wp2_with (first|((with_reducible refine zq5 (N:=2) rfl ?_);refine zE (N:=2) (cs:=#[.int .i64 aa,.int .i64 ab,.string aC,.string aD,.int .i64 aE,.string av,.string aw,.slice bS al.length bT,.slice bU an.length bV]) (t:=30) ?_;intro d2 hg w5 hbox hb;have aZ:=zA hbox;have zd:=zA (zS hg:w.heap.size≤d2);have ze:=zA (zS hg:w.heap.size≤d2);replace HB:=zA (zq0 zB hb);clear hb hbox hg;obtain ⟨_,_,_,_,_,_,_,_,_⟩:=zc9 aZ.out;obtain ⟨_,_,_,_,_,_,_,_,_⟩:=zf9 aZ.out)|((with_reducible refine zq2 (f:=43) rfl ?_);refine zq4 (some 8) rfl rfl Tryz.func43 zY2 rfl #[.agg #[.string av,.string aw,.slice bS al.length bT,.slice bU an.length bV],.int .i64 a1] rfl zY0 ?_;(with_reducible refine (laws_heldMail.calls k av aw _ _ al _ _ an a1 d9 _ ?side1 ?side2 ?side3 ?side4 A3.out).mono ?_);(case side1=>exact zC (Kd.z0 eC.out HB.out));(case side2=>exact eD.out);(case side3=>exact zC (Kd.z0 eE.out HB.out));(case side4=>exact eF.out);rintro e w7 ⟨rfl,hb⟩;refine ⟨_,rfl,?_⟩;replace aZ:=zA (zq1 (zK aZ.out) hb);replace HB:=zA (zq0 zB hb);clear hb))
  go_ret
  exact ⟨zT,zB⟩
 rw [if_neg c4] at H
 have c4b0:decide (d9 < 0)=false:=decide_eq_false c4
 clear c4
 obtain rfl:=Option.some.inj H
 go_enter Tryz.func17,Tryz.ntmps17
 go_wp2_with (first|((with_reducible refine zq5 (N:=2) rfl ?_);refine zE (N:=2) (cs:=#[.int .i64 aa,.int .i64 ab,.string aC,.string aD,.int .i64 aE,.string av,.string aw,.slice bS al.length bT,.slice bU an.length bV]) (t:=30) ?_;intro d2 hg w8 hbox hb;have aZ:=zA hbox;have zd:=zA (zS hg:w.heap.size≤d2);have ze:=zA (zS hg:w.heap.size≤d2);replace HB:=zA (zq0 zB hb);clear hb hbox hg;obtain ⟨_,_,_,_,_,_,_,_,_⟩:=zc9 aZ.out;obtain ⟨_,_,_,_,_,_,_,_,_⟩:=zf9 aZ.out)|((with_reducible refine zq2 (f:=43) rfl ?_);refine zq4 (some 8) rfl rfl Tryz.func43 zY2 rfl #[.agg #[.string av,.string aw,.slice bS al.length bT,.slice bU an.length bV],.int .i64 a1] rfl zY0 ?_;(with_reducible refine (laws_heldMail.calls k av aw _ _ al _ _ an a1 d9 _ ?side1 ?side2 ?side3 ?side4 A3.out).mono ?_);(case side1=>exact zC (Kd.z0 eC.out HB.out));(case side2=>exact eD.out);(case side3=>exact zC (Kd.z0 eE.out HB.out));(case side4=>exact eF.out);rintro e cv ⟨rfl,hb⟩;refine ⟨_,rfl,?_⟩;replace aZ:=zA (zq1 (zK aZ.out) hb);replace HB:=zA (zq0 zB hb);clear hb))
 go_ret
 exact ⟨zT,zB⟩
end Go.Proofs.YtjdpdkdhfnpcgaaGreatDoor.Q
