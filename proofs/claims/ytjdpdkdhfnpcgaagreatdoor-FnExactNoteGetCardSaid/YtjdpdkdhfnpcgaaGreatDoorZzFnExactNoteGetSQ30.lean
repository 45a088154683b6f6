/- Of a text of ours what this claim needs. -/
import Derived.Test.YtjdpdkdhfnpcgaaGreatDoorZzFnExactNoteGetSQ0
import Derived.Test.YtjdpdkdhfnpcgaaGreatDoorZzFnExactNoteGetSAu
import Derived.Test.YtjdpdkdhfnpcgaaGreatDoorZzFnExactNoteGetSQ29
namespace Go.Proofs.YtjdpdkdhfnpcgaaGreatDoor.Q
open Go.RowKit Go.Proofs.YtjdpdkdhfnpcgaaGreatDoorW.PrintWords Go.Proofs.YtjdpdkdhfnpcgaaGreatDoorW.PrintLast Go.Proofs.YtjdpdkdhfnpcgaaGreatDoorW.PrintMore
attribute [local go_sem] max2_int min2_int max_two min_two max_three min_three max_four min_four
set_option linter.unusedVariables false
set_option linter.unusedSimpArgs false
def laws_heldAddrS.l0:Nat→List (S24)→Int→Int→Option (Int)
 | 0,_,_,_=>none
 | k+1,x0,x1,x5=>if x5 < (x0.length:Int) then (if 0≤x5 then ((laws_markText.f k x1).bind fun ai=>(if ((zq6 x0 x5).f0).toList=ai.toList then ((laws_markText.f k (wrap64 (x1+1))).bind fun cp=>(if ((zq6 x0 x5).f1).toList=cp.toList then (laws_heldAddrS.l0 k x0 (wrap64 ((wrap64 (x1+1))+1)) (wrap64 (x5+1))) else (some (-1)))) else (some (-1)))) else (none)) else (some x1)
def laws_heldAddrS.f (k:Nat) (l0:List (S24)) (a1:Int):Option (Int):=laws_heldAddrS.l0 k l0 a1 0
def laws_heldAddrS.T4:Bool × List (List Nat × List Nat):=(true,[([],[]),([],[]),([0,1],[0,1]),([2],[2]),([3],[3]),([],[]),([5],[5]),([4,6],[4,6])])
def laws_heldAddrS.B4:List Nat:=[0,0,3,7,15,0,32,127]
theorem laws_heldAddrS.tab4:rtab .any (opsOf Tryz.f86 4)=laws_heldAddrS.T4:=by kernel_rfl
theorem laws_heldAddrS.bits4:waitsOk laws_heldAddrS.T4.2 laws_heldAddrS.B4=true:=by kernel_rfl
def laws_heldAddrS.T7:Bool × List (List Nat × List Nat):=(true,[([],[]),([],[]),([0,1],[0,1]),([2],[2]),([3],[3]),([],[]),([5],[5]),([4,6],[4,6])])
def laws_heldAddrS.B7:List Nat:=[0,0,3,7,15,0,32,127]
theorem laws_heldAddrS.tab7:rtab .any (opsOf Tryz.f86 7)=laws_heldAddrS.T7:=by kernel_rfl
theorem laws_heldAddrS.bits7:waitsOk laws_heldAddrS.T7.2 laws_heldAddrS.B7=true:=by kernel_rfl
set_option maxHeartbeats 8000000 in
set_option maxRecDepth 100000 in
theorem laws_heldAddrS.calls (k:Nat) (A0:Option Addr) (c0:Nat) (l0:List (S24)) (a1:Int) (r:Int) (w:World) (dr:Kd.C k24 w A0 l0.length l0) (dt:l0.length≤c0) (h:laws_heldAddrS.f k l0 a1=some r) :
 Calls Tryz.prog 86 #[.slice A0 l0.length c0,.int .i64 a1] w fun e w'=>e=.returned (.int .i64 r)∧Below w.heap.size w w':=by
 have cW:=zA dr
 have fH:=zA dt
 clear dr dt
 have HB:=zA (Below.refl w.heap.size w)
 have H:(laws_heldAddrS.l0 k l0 a1 0)=some r:=h
 clear h
 have H':=zA H
 clear H
 go_enter Tryz.func86,Tryz.ntmps86
 go_wp2
 go_loopg [1,5] k (fun kq v1 v5 w'=>∃ (cD:Int) (ae:Int),v1=.int .i64 cD∧v5=.int .i64 ae∧Aside0 (laws_heldAddrS.l0 kq l0 cD ae=some r)∧Aside0 (kq≤k)∧Aside0 (Below w.heap.size w w'))
 case atStart=>exact ⟨(a1),(0),zY3,zY3,H',⟨Nat.le_refl _⟩,⟨zB⟩⟩
 case round =>
  clear H'
  try clear p2
  obtain ⟨cD,ae,rfl,rfl,HA,HK1,HB⟩:=hrel
  cases gk with
  | zero=>exact absurd HA.out (by simp [laws_heldAddrS.l0])
  | succ k1 =>
   have H:=HA.out
   clear HA
   simp only [laws_heldAddrS.l0] at H
   by_cases c3:ae < (l0.length:Int)
   rotate_left
   ·rw [if_neg c3] at H
    have c3b0:decide (ae < (l0.length:Int))=false:=decide_eq_false c3
    clear c3
    obtain rfl:=Option.some.inj H
    go_wp2
    go_ret
    exact ⟨zT,zB⟩
   rw [if_pos c3] at H
   have c3b0:decide (ae < (l0.length:Int))=true:=decide_eq_true c3
   clear c3
   obtain ⟨c4,H⟩:=zp H
   have c4b0:decide (0≤ae)=true:=decide_eq_true c4
   clear c4
   replace H:=Option.bind_eq_some_iff.mp H
   obtain ⟨ai,dS,H⟩:=H
   try dsimp only at H
   have A5:=zA dS
   clear dS
   by_cases c6:((zq6 l0 ae).f0).toList=ai.toList
   rotate_left
   ·rw [if_neg c6] at H
    have c6b0:(((zq6 l0 ae).f0).toList==ai.toList)=false:=beq_eq_false_iff_ne.mpr c6
    have c6b1:(((zq6 l0 ae).f0).toList != ai.toList)=true:=bne_iff_ne.mpr c6
    obtain rfl:=Option.some.inj H
    try go_wp2
    replace HB:=zA (below_drew1 HB.out)
    have ft:0≤(ae:Int):=of_decide_eq_true zY1
    have fv:ae < (l0.length:Int):=of_decide_eq_true zY1
    obtain ⟨ez,ke,dX,fX⟩:=at_T24 cW.out ae ft fv
    have gS:=fX
    have eo:=dX
    cases ke
    replace dX:=(HB.out.cell (World.block_lt_of_cell? w _ dX)).trans dX
    replace fX:=(HB.out.cell (World.block_lt_of_cell? w _ fX)).trans fX
    replace ft:=eq_true ft
    replace fv:=eq_true fv
    refine start_ (n:=8) (S:=fun w'=>w'.cell? (ez.add ((ae).toNat * 2))=some (.string ((zq6 l0 ae).f0))∧w'.cell? ⟨(ez.add ((ae).toNat * 2)).block,(ez.add ((ae).toNat * 2)).off+1,none⟩=some (.string ((zq6 l0 ae).f1))) (ds:=[]) #[false,false,false,false,false,false,false,false] zY2 rfl rfl ⟨((HB.out.cell (World.block_lt_of_cell? w _ eo)).trans eo),((HB.out.cell (World.block_lt_of_cell? w _ gS)).trans gS)⟩ (fun hHeld=>?_);refine with_tabW laws_heldAddrS.tab4 laws_heldAddrS.bits4 (fun HT_ HW_=>?_)
    generalize wr.drew=jz at HB dX fX hHeld ⊢
    refine pure_ (i:=0) (N:=some 12) (v:=?_) (a':=?_) #[true,false,false,false,false,false,false,false] rfl rfl (any_of HT_.out zY2) (fun _ _ _ h=>h) (Or.inl ⟨by rfl,?_⟩) ?_ ?_
    rotate_left
    ·intro w'
     go_simp
     with_reducible rfl
    rotate_left
    ·simp only [Act.put,zL0,zL1,zL2,i64_w,i32_w]
     rfl
    refine pure_ (i:=1) (N:=some 13) (v:=?_) (a':=?_) #[true,true,false,false,false,false,false,false] rfl rfl (any_of HT_.out zY2) (fun _ _ _ h=>h) (Or.inl ⟨by rfl,?_⟩) ?_ ?_
    rotate_left
    ·intro w'
     go_simp
     with_reducible rfl
    rotate_left
    ·simp only [Act.put,zL0,zL1,zL2,i64_w,i32_w]
     rfl
    refine pure_ (i:=2) (N:=some 14) (v:=?_) (a':=?_) #[true,true,true,false,false,false,false,false] rfl rfl (any_of HT_.out zY2) (fun _ _ _ h=>h) (Or.inl ⟨by rfl,?_⟩) ?_ ?_
    rotate_left
    ·intro w'
     go_simp
     with_reducible rfl
    rotate_left
    ·simp only [Act.put,zL0,zL1,zL2,i64_w,i32_w]
     rfl
    refine pure_ (i:=3) (N:=some 15) (v:=?_) (a':=?_) #[true,true,true,true,false,false,false,false] rfl rfl (any_of HT_.out zY2) (fun _ _ _ h=>h) (Or.inl ⟨by rfl,?_⟩) ?_ ?_
    rotate_left
    ·intro w'
     go_simp
     with_reducible rfl
    rotate_left
    ·simp only [Act.put,zL0,zL1,zL2,i64_w,i32_w]
     rfl
    refine pure_ (i:=5) (N:=some 17) (v:=?_) (a':=?_) #[true,true,true,true,false,true,false,false] rfl rfl (any_of HT_.out zY2) (fun _ _ _ h=>h) (Or.inl ⟨by rfl,?_⟩) ?_ ?_
    rotate_left
    ·intro w'
     go_simp
     with_reducible rfl
    rotate_left
    ·simp only [Act.put,zL0,zL1,zL2,i64_w,i32_w]
     rfl
    refine take_ (i:=4) (N:=some 16) (v:=?_) (a':=?_) #[true,true,true,true,true,true,false,false] rfl rfl (take_ofW HT_.out HW_.out zY2) (fun _ _ _ h=>h) (Or.inl ⟨by rfl,?_⟩) hHeld ?_ ?_
    rotate_left
    ·rintro w' ⟨s0,s1⟩
     go_simp
     with_reducible rfl
    rotate_left
    ·simp only [Act.put,zL0,zL1,zL2,i64_w,i32_w]
     rfl
    refine one_ (i:=6) (N:=some 18) #[true,true,true,true,true,true,true,false] rfl rfl (one_of HT_.out zY2) zY4 (fun K hK=>?_)
    refine goes_ Tryz.func129 zY2 rfl #[.int .i64 cD] zY30 rfl rfl zY0 ?_
    with_reducible refine (laws_markText.calls k1 cD ai _ A5.out).mono ?_
    rintro e jD ⟨rfl,hb⟩
    refine ⟨_,rfl,?_⟩
    replace HB:=zA (zq0 zB hb)
    (try clear hb)
    refine hK.out _ _ ⟨((HB.out.cell (World.block_lt_of_cell? w _ eo)).trans eo),((HB.out.cell (World.block_lt_of_cell? w _ gS)).trans gS)⟩ (fun hHeld=>?_)
    clear hK K
    refine norm_ (a':=?_) ?_ ?_
    rotate_left
    ·show Act.put _ (some 18) _=_
     simp only [Act.put,zL0,zL1,zL2,i64_w,i32_w]
     rfl
    refine pure_ (i:=7) (N:=some 19) (v:=?_) (a':=?_) #[true,true,true,true,true,true,true,true] rfl rfl (any_of HT_.out zY2) (fun _ _ _ h=>h) (Or.inl ⟨by rfl,?_⟩) ?_ ?_
    rotate_left
    ·intro w'
     go_simp
     with_reducible rfl
    rotate_left
    ·simp only [Act.put,zL0,zL1,zL2,i64_w,i32_w]
     rfl
    refine done_ (done_of HT_.out zY2) ?_
    try go_wp2
    go_ret
    exact ⟨zT,zB⟩
   rw [if_pos c6] at H
   have c6b0:(((zq6 l0 ae).f0).toList==ai.toList)=true:=beq_iff_eq.mpr c6
   have c6b1:(((zq6 l0 ae).f0).toList != ai.toList)=false:=bne_eq_false_iff_eq.mpr c6
   clear c6
   replace H:=Option.bind_eq_some_iff.mp H
   obtain ⟨cp,fI,H⟩:=H
   try dsimp only at H
   have A7:=zA fI
   clear fI
   by_cases c8:((zq6 l0 ae).f1).toList=cp.toList
   rotate_left
   ·rw [if_neg c8] at H
    have c8b0:(((zq6 l0 ae).f1).toList==cp.toList)=false:=beq_eq_false_iff_ne.mpr c8
    have c8b1:(((zq6 l0 ae).f1).toList != cp.toList)=true:=bne_iff_ne.mpr c8
    obtain rfl:=Option.some.inj H
    try go_wp2
    replace HB:=zA (below_drew1 HB.out)
    have ft:0≤(ae:Int):=of_decide_eq_true zY1
    have fv:ae < (l0.length:Int):=of_decide_eq_true zY1
    obtain ⟨ez,ke,dX,fX⟩:=at_T24 cW.out ae ft fv
    have gS:=fX
    have eo:=dX
    cases ke
    replace dX:=(HB.out.cell (World.block_lt_of_cell? w _ dX)).trans dX
    replace fX:=(HB.out.cell (World.block_lt_of_cell? w _ fX)).trans fX
    replace ft:=eq_true ft
    replace fv:=eq_true fv
    refine start_ (n:=8) (S:=fun w'=>w'.cell? (ez.add ((ae).toNat * 2))=some (.string ((zq6 l0 ae).f0))∧w'.cell? ⟨(ez.add ((ae).toNat * 2)).block,(ez.add ((ae).toNat * 2)).off+1,none⟩=some (.string ((zq6 l0 ae).f1))) (ds:=[]) #[false,false,false,false,false,false,false,false] zY2 rfl rfl ⟨((HB.out.cell (World.block_lt_of_cell? w _ eo)).trans eo),((HB.out.cell (World.block_lt_of_cell? w _ gS)).trans gS)⟩ (fun hHeld=>?_);refine with_tabW laws_heldAddrS.tab4 laws_heldAddrS.bits4 (fun HT_ HW_=>?_)
    generalize wr.drew=g0 at HB dX fX hHeld ⊢
    refine pure_ (i:=0) (N:=some 12) (v:=?_) (a':=?_) #[true,false,false,false,false,false,false,false] rfl rfl (any_of HT_.out zY2) (fun _ _ _ h=>h) (Or.inl ⟨by rfl,?_⟩) ?_ ?_
    rotate_left
    ·intro w'
     go_simp
     with_reducible rfl
    rotate_left
    ·simp only [Act.put,zL0,zL1,zL2,i64_w,i32_w]
     rfl
    refine pure_ (i:=1) (N:=some 13) (v:=?_) (a':=?_) #[true,true,false,false,false,false,false,false] rfl rfl (any_of HT_.out zY2) (fun _ _ _ h=>h) (Or.inl ⟨by rfl,?_⟩) ?_ ?_
    rotate_left
    ·intro w'
     go_simp
     with_reducible rfl
    rotate_left
    ·simp only [Act.put,zL0,zL1,zL2,i64_w,i32_w]
     rfl
    refine pure_ (i:=2) (N:=some 14) (v:=?_) (a':=?_) #[true,true,true,false,false,false,false,false] rfl rfl (any_of HT_.out zY2) (fun _ _ _ h=>h) (Or.inl ⟨by rfl,?_⟩) ?_ ?_
    rotate_left
    ·intro w'
     go_simp
     with_reducible rfl
    rotate_left
    ·simp only [Act.put,zL0,zL1,zL2,i64_w,i32_w]
     rfl
    refine pure_ (i:=3) (N:=some 15) (v:=?_) (a':=?_) #[true,true,true,true,false,false,false,false] rfl rfl (any_of HT_.out zY2) (fun _ _ _ h=>h) (Or.inl ⟨by rfl,?_⟩) ?_ ?_
    rotate_left
    ·intro w'
     go_simp
     with_reducible rfl
    rotate_left
    ·simp only [Act.put,zL0,zL1,zL2,i64_w,i32_w]
     rfl
    refine pure_ (i:=5) (N:=some 17) (v:=?_) (a':=?_) #[true,true,true,true,false,true,false,false] rfl rfl (any_of HT_.out zY2) (fun _ _ _ h=>h) (Or.inl ⟨by rfl,?_⟩) ?_ ?_
    rotate_left
    ·intro w'
     go_simp
     with_reducible rfl
    rotate_left
    ·simp only [Act.put,zL0,zL1,zL2,i64_w,i32_w]
     rfl
    refine take_ (i:=4) (N:=some 16) (v:=?_) (a':=?_) #[true,true,true,true,true,true,false,false] rfl rfl (take_ofW HT_.out HW_.out zY2) (fun _ _ _ h=>h) (Or.inl ⟨by rfl,?_⟩) hHeld ?_ ?_
    rotate_left
    ·rintro w' ⟨s0,s1⟩
     go_simp
     with_reducible rfl
    rotate_left
    ·simp only [Act.put,zL0,zL1,zL2,i64_w,i32_w]
     rfl
    refine one_ (i:=6) (N:=some 18) #[true,true,true,true,true,true,true,false] rfl rfl (one_of HT_.out zY2) zY4 (fun K hK=>?_)
    refine goes_ Tryz.func129 zY2 rfl #[.int .i64 cD] zY30 rfl rfl zY0 ?_
    with_reducible refine (laws_markText.calls k1 cD ai _ A5.out).mono ?_
    rintro e jy ⟨rfl,hb⟩
    refine ⟨_,rfl,?_⟩
    replace HB:=zA (zq0 zB hb)
    (try clear hb)
    refine hK.out _ _ ⟨((HB.out.cell (World.block_lt_of_cell? w _ eo)).trans eo),((HB.out.cell (World.block_lt_of_cell? w _ gS)).trans gS)⟩ (fun hHeld=>?_)
    clear hK K
    refine norm_ (a':=?_) ?_ ?_
    rotate_left
    ·show Act.put _ (some 18) _=_
     simp only [Act.put,zL0,zL1,zL2,i64_w,i32_w]
     rfl
    refine pure_ (i:=7) (N:=some 19) (v:=?_) (a':=?_) #[true,true,true,true,true,true,true,true] rfl rfl (any_of HT_.out zY2) (fun _ _ _ h=>h) (Or.inl ⟨by rfl,?_⟩) ?_ ?_
    rotate_left
    ·intro w'
     go_simp
     with_reducible rfl
    rotate_left
    ·simp only [Act.put,zL0,zL1,zL2,i64_w,i32_w]
     rfl
    refine done_ (done_of HT_.out zY2) ?_
    try go_wp2
    replace HB:=zA (below_drew1 HB.out)
    have mx:0≤(ae:Int):=of_decide_eq_true zY1
    have my:ae < (l0.length:Int):=of_decide_eq_true zY1
    obtain ⟨ym,yn,iP,iQ⟩:=at_T24 cW.out ae mx my
    have kf:=iQ
    have kg:=iP
    obtain rfl:ez=ym:=(by injection yn)
    replace iP:=(HB.out.cell (World.block_lt_of_cell? w _ iP)).trans iP
    replace iQ:=(HB.out.cell (World.block_lt_of_cell? w _ iQ)).trans iQ
    replace mx:=eq_true mx
    replace my:=eq_true my
    refine start_ (n:=8) (S:=fun w'=>w'.cell? (ez.add ((ae).toNat * 2))=some (.string ((zq6 l0 ae).f0))∧w'.cell? ⟨(ez.add ((ae).toNat * 2)).block,(ez.add ((ae).toNat * 2)).off+1,none⟩=some (.string ((zq6 l0 ae).f1))) (ds:=[]) #[false,false,false,false,false,false,false,false] zY2 rfl rfl ⟨((HB.out.cell (World.block_lt_of_cell? w _ kg)).trans kg),((HB.out.cell (World.block_lt_of_cell? w _ kf)).trans kf)⟩ (fun hHeld=>?_);refine with_tabW laws_heldAddrS.tab7 laws_heldAddrS.bits7 (fun HT_ HW_=>?_)
    generalize jy.drew=ic at HB iP iQ hHeld ⊢
    refine pure_ (i:=0) (N:=some 22) (v:=?_) (a':=?_) #[true,false,false,false,false,false,false,false] rfl rfl (any_of HT_.out zY2) (fun _ _ _ h=>h) (Or.inl ⟨by rfl,?_⟩) ?_ ?_
    rotate_left
    ·intro w'
     go_simp
     with_reducible rfl
    rotate_left
    ·simp only [Act.put,zL0,zL1,zL2,i64_w,i32_w]
     rfl
    refine pure_ (i:=1) (N:=some 23) (v:=?_) (a':=?_) #[true,true,false,false,false,false,false,false] rfl rfl (any_of HT_.out zY2) (fun _ _ _ h=>h) (Or.inl ⟨by rfl,?_⟩) ?_ ?_
    rotate_left
    ·intro w'
     go_simp
     with_reducible rfl
    rotate_left
    ·simp only [Act.put,zL0,zL1,zL2,i64_w,i32_w]
     rfl
    refine pure_ (i:=2) (N:=some 24) (v:=?_) (a':=?_) #[true,true,true,false,false,false,false,false] rfl rfl (any_of HT_.out zY2) (fun _ _ _ h=>h) (Or.inl ⟨by rfl,?_⟩) ?_ ?_
    rotate_left
    ·intro w'
     go_simp
     with_reducible rfl
    rotate_left
    ·simp only [Act.put,zL0,zL1,zL2,i64_w,i32_w]
     rfl
    refine pure_ (i:=3) (N:=some 25) (v:=?_) (a':=?_) #[true,true,true,true,false,false,false,false] rfl rfl (any_of HT_.out zY2) (fun _ _ _ h=>h) (Or.inl ⟨by rfl,?_⟩) ?_ ?_
    rotate_left
    ·intro w'
     go_simp
     with_reducible rfl
    rotate_left
    ·simp only [Act.put,zL0,zL1,zL2,i64_w,i32_w]
     rfl
    refine pure_ (i:=5) (N:=some 27) (v:=?_) (a':=?_) #[true,true,true,true,false,true,false,false] rfl rfl (any_of HT_.out zY2) (fun _ _ _ h=>h) (Or.inl ⟨by rfl,?_⟩) ?_ ?_
    rotate_left
    ·intro w'
     go_simp
     with_reducible rfl
    rotate_left
    ·simp only [Act.put,zL0,zL1,zL2,i64_w,i32_w]
     rfl
    refine take_ (i:=4) (N:=some 26) (v:=?_) (a':=?_) #[true,true,true,true,true,true,false,false] rfl rfl (take_ofW HT_.out HW_.out zY2) (fun _ _ _ h=>h) (Or.inl ⟨by rfl,?_⟩) hHeld ?_ ?_
    rotate_left
    ·rintro w' ⟨s0,s1⟩
     go_simp
     with_reducible rfl
    rotate_left
    ·simp only [Act.put,zL0,zL1,zL2,i64_w,i32_w]
     rfl
    refine one_ (i:=6) (N:=some 28) #[true,true,true,true,true,true,true,false] rfl rfl (one_of HT_.out zY2) zY4 (fun K hK=>?_)
    refine goes_ Tryz.func129 zY2 rfl #[.int .i64 (wrap64 (cD+1))] zY30 rfl rfl zY0 ?_
    with_reducible refine (laws_markText.calls k1 (wrap64 (cD+1)) cp _ A7.out).mono ?_
    rintro e nq ⟨rfl,hb⟩
    refine ⟨_,rfl,?_⟩
    replace HB:=zA (zq0 zB hb)
    (try clear hb)
    refine hK.out _ _ ⟨((HB.out.cell (World.block_lt_of_cell? w _ kg)).trans kg),((HB.out.cell (World.block_lt_of_cell? w _ kf)).trans kf)⟩ (fun hHeld=>?_)
    clear hK K
    refine norm_ (a':=?_) ?_ ?_
    rotate_left
    ·show Act.put _ (some 28) _=_
     simp only [Act.put,zL0,zL1,zL2,i64_w,i32_w]
     rfl
    refine pure_ (i:=7) (N:=some 29) (v:=?_) (a':=?_) #[true,true,true,true,true,true,true,true] rfl rfl (any_of HT_.out zY2) (fun _ _ _ h=>h) (Or.inl ⟨by rfl,?_⟩) ?_ ?_
    rotate_left
    ·intro w'
     go_simp
     with_reducible rfl
    rotate_left
    ·simp only [Act.put,zL0,zL1,zL2,i64_w,i32_w]
     rfl
    refine done_ (done_of HT_.out zY2) ?_
    try go_wp2
    go_ret
    exact ⟨zT,zB⟩
   rw [if_pos c8] at H
   have c8b0:(((zq6 l0 ae).f1).toList==cp.toList)=true:=beq_iff_eq.mpr c8
   have c8b1:(((zq6 l0 ae).f1).toList != cp.toList)=false:=bne_eq_false_iff_eq.mpr c8
   clear c8
   have H':=zA H
   clear H
   try go_wp2
   replace HB:=zA (below_drew1 HB.out)
   have ft:0≤(ae:Int):=of_decide_eq_true zY1
   have fv:ae < (l0.length:Int):=of_decide_eq_true zY1
   obtain ⟨ez,ke,dX,fX⟩:=at_T24 cW.out ae ft fv
   have gS:=fX
   have eo:=dX
   cases ke
   replace dX:=(HB.out.cell (World.block_lt_of_cell? w _ dX)).trans dX
   replace fX:=(HB.out.cell (World.block_lt_of_cell? w _ fX)).trans fX
   replace ft:=eq_true ft
   replace fv:=eq_true fv
   refine start_ (n:=8) (S:=fun w'=>w'.cell? (ez.add ((ae).toNat * 2))=some (.string ((zq6 l0 ae).f0))∧w'.cell? ⟨(ez.add ((ae).toNat * 2)).block,(ez.add ((ae).toNat * 2)).off+1,none⟩=some (.string ((zq6 l0 ae).f1))) (ds:=[]) #[false,false,false,false,false,false,false,false] zY2 rfl rfl ⟨((HB.out.cell (World.block_lt_of_cell? w _ eo)).trans eo),((HB.out.cell (World.block_lt_of_cell? w _ gS)).trans gS)⟩ (fun hHeld=>?_);refine with_tabW laws_heldAddrS.tab4 laws_heldAddrS.bits4 (fun HT_ HW_=>?_)
   generalize wr.drew=w9 at HB dX fX hHeld ⊢
   refine pure_ (i:=0) (N:=some 12) (v:=?_) (a':=?_) #[true,false,false,false,false,false,false,false] rfl rfl (any_of HT_.out zY2) (fun _ _ _ h=>h) (Or.inl ⟨by rfl,?_⟩) ?_ ?_
   rotate_left
   ·intro w'
    go_simp
    with_reducible rfl
   rotate_left
   ·simp only [Act.put,zL0,zL1,zL2,i64_w,i32_w]
    rfl
   refine pure_ (i:=1) (N:=some 13) (v:=?_) (a':=?_) #[true,true,false,false,false,false,false,false] rfl rfl (any_of HT_.out zY2) (fun _ _ _ h=>h) (Or.inl ⟨by rfl,?_⟩) ?_ ?_
   rotate_left
   ·intro w'
    go_simp
    with_reducible rfl
   rotate_left
   ·simp only [Act.put,zL0,zL1,zL2,i64_w,i32_w]
    rfl
   refine pure_ (i:=2) (N:=some 14) (v:=?_) (a':=?_) #[true,true,true,false,false,false,false,false] rfl rfl (any_of HT_.out zY2) (fun _ _ _ h=>h) (Or.inl ⟨by rfl,?_⟩) ?_ ?_
   rotate_left
   ·intro w'
    go_simp
    with_reducible rfl
   rotate_left
   ·simp only [Act.put,zL0,zL1,zL2,i64_w,i32_w]
    rfl
   refine pure_ (i:=3) (N:=some 15) (v:=?_) (a':=?_) #[true,true,true,true,false,false,false,false] rfl rfl (any_of HT_.out zY2) (fun _ _ _ h=>h) (Or.inl ⟨by rfl,?_⟩) ?_ ?_
   rotate_left
   ·intro w'
    go_simp
    with_reducible rfl
   rotate_left
   ·simp only [Act.put,zL0,zL1,zL2,i64_w,i32_w]
    rfl
   refine pure_ (i:=5) (N:=some 17) (v:=?_) (a':=?_) #[true,true,true,true,false,true,false,false] rfl rfl (any_of HT_.out zY2) (fun _ _ _ h=>h) (Or.inl ⟨by rfl,?_⟩) ?_ ?_
   rotate_left
   ·intro w'
    go_simp
    with_reducible rfl
   rotate_left
   ·simp only [Act.put,zL0,zL1,zL2,i64_w,i32_w]
    rfl
   refine take_ (i:=4) (N:=some 16) (v:=?_) (a':=?_) #[true,true,true,true,true,true,false,false] rfl rfl (take_ofW HT_.out HW_.out zY2) (fun _ _ _ h=>h) (Or.inl ⟨by rfl,?_⟩) hHeld ?_ ?_
   rotate_left
   ·rintro w' ⟨s0,s1⟩
    go_simp
    with_reducible rfl
   rotate_left
   ·simp only [Act.put,zL0,zL1,zL2,i64_w,i32_w]
    rfl
   refine one_ (i:=6) (N:=some 18) #[true,true,true,true,true,true,true,false] rfl rfl (one_of HT_.out zY2) zY4 (fun K hK=>?_)
   refine goes_ Tryz.func129 zY2 rfl #[.int .i64 cD] zY30 rfl rfl zY0 ?_
   with_reducible refine (laws_markText.calls k1 cD ai _ A5.out).mono ?_
   rintro e cv ⟨rfl,hb⟩
   refine ⟨_,rfl,?_⟩
   replace HB:=zA (zq0 zB hb)
   (try clear hb)
   refine hK.out _ _ ⟨((HB.out.cell (World.block_lt_of_cell? w _ eo)).trans eo),((HB.out.cell (World.block_lt_of_cell? w _ gS)).trans gS)⟩ (fun hHeld=>?_)
   clear hK K
   refine norm_ (a':=?_) ?_ ?_
   rotate_left
   ·show Act.put _ (some 18) _=_
    simp only [Act.put,zL0,zL1,zL2,i64_w,i32_w]
    rfl
   refine pure_ (i:=7) (N:=some 19) (v:=?_) (a':=?_) #[true,true,true,true,true,true,true,true] rfl rfl (any_of HT_.out zY2) (fun _ _ _ h=>h) (Or.inl ⟨by rfl,?_⟩) ?_ ?_
   rotate_left
   ·intro w'
    go_simp
    with_reducible rfl
   rotate_left
   ·simp only [Act.put,zL0,zL1,zL2,i64_w,i32_w]
    rfl
   refine done_ (done_of HT_.out zY2) ?_
   try go_wp2
   replace HB:=zA (below_drew1 HB.out)
   have mx:0≤(ae:Int):=of_decide_eq_true zY1
   have my:ae < (l0.length:Int):=of_decide_eq_true zY1
   obtain ⟨ym,yn,iP,iQ⟩:=at_T24 cW.out ae mx my
   have kf:=iQ
   have kg:=iP
   obtain rfl:ez=ym:=(by injection yn)
   replace iP:=(HB.out.cell (World.block_lt_of_cell? w _ iP)).trans iP
   replace iQ:=(HB.out.cell (World.block_lt_of_cell? w _ iQ)).trans iQ
   replace mx:=eq_true mx
   replace my:=eq_true my
   refine start_ (n:=8) (S:=fun w'=>w'.cell? (ez.add ((ae).toNat * 2))=some (.string ((zq6 l0 ae).f0))∧w'.cell? ⟨(ez.add ((ae).toNat * 2)).block,(ez.add ((ae).toNat * 2)).off+1,none⟩=some (.string ((zq6 l0 ae).f1))) (ds:=[]) #[false,false,false,false,false,false,false,false] zY2 rfl rfl ⟨((HB.out.cell (World.block_lt_of_cell? w _ kg)).trans kg),((HB.out.cell (World.block_lt_of_cell? w _ kf)).trans kf)⟩ (fun hHeld=>?_);refine with_tabW laws_heldAddrS.tab7 laws_heldAddrS.bits7 (fun HT_ HW_=>?_)
   generalize cv.drew=gv at HB iP iQ hHeld ⊢
   refine pure_ (i:=0) (N:=some 22) (v:=?_) (a':=?_) #[true,false,false,false,false,false,false,false] rfl rfl (any_of HT_.out zY2) (fun _ _ _ h=>h) (Or.inl ⟨by rfl,?_⟩) ?_ ?_
   rotate_left
   ·intro w'
    go_simp
    with_reducible rfl
   rotate_left
   ·simp only [Act.put,zL0,zL1,zL2,i64_w,i32_w]
    rfl
   refine pure_ (i:=1) (N:=some 23) (v:=?_) (a':=?_) #[true,true,false,false,false,false,false,false] rfl rfl (any_of HT_.out zY2) (fun _ _ _ h=>h) (Or.inl ⟨by rfl,?_⟩) ?_ ?_
   rotate_left
   ·intro w'
    go_simp
    with_reducible rfl
   rotate_left
   ·simp only [Act.put,zL0,zL1,zL2,i64_w,i32_w]
    rfl
   refine pure_ (i:=2) (N:=some 24) (v:=?_) (a':=?_) #[true,true,true,false,false,false,false,false] rfl rfl (any_of HT_.out zY2) (fun _ _ _ h=>h) (Or.inl ⟨by rfl,?_⟩) ?_ ?_
   rotate_left
   ·intro w'
    go_simp
    with_reducible rfl
   rotate_left
   ·simp only [Act.put,zL0,zL1,zL2,i64_w,i32_w]
    rfl
   refine pure_ (i:=3) (N:=some 25) (v:=?_) (a':=?_) #[true,true,true,true,false,false,false,false] rfl rfl (any_of HT_.out zY2) (fun _ _ _ h=>h) (Or.inl ⟨by rfl,?_⟩) ?_ ?_
   rotate_left
   ·intro w'
    go_simp
    with_reducible rfl
   rotate_left
   ·simp only [Act.put,zL0,zL1,zL2,i64_w,i32_w]
    rfl
   refine pure_ (i:=5) (N:=some 27) (v:=?_) (a':=?_) #[true,true,true,true,false,true,false,false] rfl rfl (any_of HT_.out zY2) (fun _ _ _ h=>h) (Or.inl ⟨by rfl,?_⟩) ?_ ?_
   rotate_left
   ·intro w'
    go_simp
    with_reducible rfl
   rotate_left
   ·simp only [Act.put,zL0,zL1,zL2,i64_w,i32_w]
    rfl
   refine take_ (i:=4) (N:=some 26) (v:=?_) (a':=?_) #[true,true,true,true,true,true,false,false] rfl rfl (take_ofW HT_.out HW_.out zY2) (fun _ _ _ h=>h) (Or.inl ⟨by rfl,?_⟩) hHeld ?_ ?_
   rotate_left
   ·rintro w' ⟨s0,s1⟩
    go_simp
    with_reducible rfl
   rotate_left
   ·simp only [Act.put,zL0,zL1,zL2,i64_w,i32_w]
    rfl
   refine one_ (i:=6) (N:=some 28) #[true,true,true,true,true,true,true,false] rfl rfl (one_of HT_.out zY2) zY4 (fun K hK=>?_)
   refine goes_ Tryz.func129 zY2 rfl #[.int .i64 (wrap64 (cD+1))] zY30 rfl rfl zY0 ?_
   with_reducible refine (laws_markText.calls k1 (wrap64 (cD+1)) cp _ A7.out).mono ?_
   rintro e gx ⟨rfl,hb⟩
   refine ⟨_,rfl,?_⟩
   replace HB:=zA (zq0 zB hb)
   (try clear hb)
   refine hK.out _ _ ⟨((HB.out.cell (World.block_lt_of_cell? w _ kg)).trans kg),((HB.out.cell (World.block_lt_of_cell? w _ kf)).trans kf)⟩ (fun hHeld=>?_)
   clear hK K
   refine norm_ (a':=?_) ?_ ?_
   rotate_left
   ·show Act.put _ (some 28) _=_
    simp only [Act.put,zL0,zL1,zL2,i64_w,i32_w]
    rfl
   refine pure_ (i:=7) (N:=some 29) (v:=?_) (a':=?_) #[true,true,true,true,true,true,true,true] rfl rfl (any_of HT_.out zY2) (fun _ _ _ h=>h) (Or.inl ⟨by rfl,?_⟩) ?_ ?_
   rotate_left
   ·intro w'
    go_simp
    with_reducible rfl
   rotate_left
   ·simp only [Act.put,zL0,zL1,zL2,i64_w,i32_w]
    rfl
   refine done_ (done_of HT_.out zY2) ?_
   try go_wp2
   go_roundg k1
   case measure=>have:=HK1.out;omega
   case rel=>exact ⟨(wrap64 ((wrap64 (cD+1))+1)),(wrap64 (ae+1)),zY3,zY3,H',⟨by have:=HK1.out;omega⟩,⟨zB⟩⟩
end Go.Proofs.YtjdpdkdhfnpcgaaGreatDoor.Q
