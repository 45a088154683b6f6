/- Of a text of ours what this claim needs. -/
import Derived.Test.YtjdpdkdhfnpcgaaGreatDoorZzFnExactNoteGetSQ0
import Derived.Test.YtjdpdkdhfnpcgaaGreatDoorZzFnExactNoteGetSAu
namespace Go.Proofs.YtjdpdkdhfnpcgaaGreatDoor.Q
open Go.RowKit Go.Proofs.YtjdpdkdhfnpcgaaGreatDoorW.PrintWords Go.Proofs.YtjdpdkdhfnpcgaaGreatDoorW.PrintLast Go.Proofs.YtjdpdkdhfnpcgaaGreatDoorW.PrintMore
attribute [local go_sem] max2_int min2_int max_two min_two max_three min_three max_four min_four
set_option linter.unusedVariables false
set_option linter.unusedSimpArgs false
def laws_eqAddr.f (aa:ByteArray) (ab:ByteArray) (cl:ByteArray) (cm:ByteArray):Option (Bool):=if aa.toList=cl.toList then (if ab.toList=cm.toList then (some true) else (some false)) else (some false)
set_option maxHeartbeats 8000000 in
set_option maxRecDepth 100000 in
theorem laws_eqAddr.calls (aa:ByteArray) (ab:ByteArray) (cl:ByteArray) (cm:ByteArray) (r:Bool) (w:World) (h:laws_eqAddr.f aa ab cl cm=some r) :
 Calls Tryz.prog 40 #[.agg #[.string aa,.string ab],.agg #[.string cl,.string cm]] w fun e w'=>e=.returned (.bool r)∧Below w.heap.size w w':=by
 have hu24:=Tryz.underlying24
 have HB:=zA (Below.refl w.heap.size w)
 have H:(if aa.toList=cl.toList then (if ab.toList=cm.toList then (some true) else (some false)) else (some false))=some r:=h
 clear h
 by_cases c3:aa.toList=cl.toList
 rotate_left
 ·rw [if_neg c3] at H
  have c3b0:(aa.toList==cl.toList)=false:=beq_eq_false_iff_ne.mpr c3
  have c3b1:(aa.toList != cl.toList)=true:=bne_iff_ne.mpr c3
  obtain rfl:=Option.some.inj H
  go_enter Tryz.func40,Tryz.ntmps40
  go_wp2_with (first|((with_reducible refine zq5 (N:=2) rfl ?_);refine zE (N:=2) (cs:=#[.string aa,.string ab]) (t:=24) ?_;intro b3 hg ic hbox hb;have aI:=zA hbox;have gt:=zA (zS hg:w.heap.size≤b3);have gu:=zA (zS hg:w.heap.size≤b3);replace HB:=zA (zq0 zB hb);clear hb hbox hg)|((with_reducible refine zq5 (N:=3) rfl ?_);refine zE (N:=3) (cs:=#[.string cl,.string cm]) (t:=24) ?_;intro dH hg nq hbox hb;have aN:=zA hbox;have lc:=zA (zS hg:w.heap.size≤dH);have ld:=zA (zS hg:w.heap.size≤dH);replace HB:=zA (zq0 zB hb);have nr:=zA (zNlt hg (zK aI.out):b3≠dH);have nt:=zA (zNgt hg (zK aI.out):dH≠b3);replace aI:=zA (zq1 (zK aI.out) hb);clear hb hbox hg;have Mh:=nr.out;have Mi:=nt.out;obtain ⟨_,_⟩:=zc2 aI.out;obtain ⟨_,_⟩:=zf2 aI.out;obtain ⟨_,_⟩:=zc2 aN.out;obtain ⟨_,_⟩:=zf2 aN.out))
  go_ret
  exact ⟨zT,zB⟩
 rw [if_pos c3] at H
 have c3b0:(aa.toList==cl.toList)=true:=beq_iff_eq.mpr c3
 have c3b1:(aa.toList != cl.toList)=false:=bne_eq_false_iff_eq.mpr c3
 clear c3
 by_cases c4:ab.toList=cm.toList
 rotate_left
 ·rw [if_neg c4] at H
  have c4b0:(ab.toList==cm.toList)=false:=beq_eq_false_iff_ne.mpr c4
  have c4b1:(ab.toList != cm.toList)=true:=bne_iff_ne.mpr c4
  obtain rfl:=Option.some.inj H
  go_enter Tryz.func40,Tryz.ntmps40
  go_wp2_with (first|((with_reducible refine zq5 (N:=2) rfl ?_);refine zE (N:=2) (cs:=#[.string aa,.string ab]) (t:=24) ?_;intro b3 hg cv hbox hb;have aI:=zA hbox;have gt:=zA (zS hg:w.heap.size≤b3);have gu:=zA (zS hg:w.heap.size≤b3);replace HB:=zA (zq0 zB hb);clear hb hbox hg)|((with_reducible refine zq5 (N:=3) rfl ?_);refine zE (N:=3) (cs:=#[.string cl,.string cm]) (t:=24) ?_;intro dH hg gv hbox hb;have aN:=zA hbox;have lc:=zA (zS hg:w.heap.size≤dH);have ld:=zA (zS hg:w.heap.size≤dH);replace HB:=zA (zq0 zB hb);have nr:=zA (zNlt hg (zK aI.out):b3≠dH);have nt:=zA (zNgt hg (zK aI.out):dH≠b3);replace aI:=zA (zq1 (zK aI.out) hb);clear hb hbox hg;have yw:=nr.out;have yx:=nt.out;obtain ⟨_,_⟩:=zc2 aI.out;obtain ⟨_,_⟩:=zf2 aI.out;obtain ⟨_,_⟩:=zc2 aN.out;obtain ⟨_,_⟩:=zf2 aN.out))
  go_ret
  exact ⟨zT,zB⟩
 rw [if_pos c4] at H
 have c4b0:(ab.toList==cm.toList)=true:=beq_iff_eq.mpr c4
 have c4b1:(ab.toList != cm.toList)=false:=bne_eq_false_iff_eq.mpr c4
 clear c4
 obtain rfl:=Option.some.inj H
 go_enter Tryz.func40,Tryz.ntmps40
 go_wp2_with (first|((with_reducible refine zq5 (N:=2) rfl ?_);refine zE (N:=2) (cs:=#[.string aa,.string ab]) (t:=24) ?_;intro b3 hg w5 hbox hb;have aI:=zA hbox;have gt:=zA (zS hg:w.heap.size≤b3);have gu:=zA (zS hg:w.heap.size≤b3);replace HB:=zA (zq0 zB hb);clear hb hbox hg)|((with_reducible refine zq5 (N:=3) rfl ?_);refine zE (N:=3) (cs:=#[.string cl,.string cm]) (t:=24) ?_;intro dH hg w6 hbox hb;have aN:=zA hbox;have lc:=zA (zS hg:w.heap.size≤dH);have ld:=zA (zS hg:w.heap.size≤dH);replace HB:=zA (zq0 zB hb);have nr:=zA (zNlt hg (zK aI.out):b3≠dH);have nt:=zA (zNgt hg (zK aI.out):dH≠b3);replace aI:=zA (zq1 (zK aI.out) hb);clear hb hbox hg;have Mj:=nr.out;have Mk:=nt.out;obtain ⟨_,_⟩:=zc2 aI.out;obtain ⟨_,_⟩:=zf2 aI.out;obtain ⟨_,_⟩:=zc2 aN.out;obtain ⟨_,_⟩:=zf2 aN.out))
 go_ret
 exact ⟨zT,zB⟩
def laws_eqAddrS.l0:Nat→List (S24)→List (S24)→Int→Option (Bool)
 | 0,_,_,_=>none
 | k+1,x0,x1,x5=>if x5 < (x0.length:Int) then (if 0≤x5 then (if x5 < (x1.length:Int) then ((laws_eqAddr.f ((zq6 x0 x5).f0) ((zq6 x0 x5).f1) ((zq6 x1 x5).f0) ((zq6 x1 x5).f1)).bind fun bR=>(if bR=true then (laws_eqAddrS.l0 k x0 x1 (wrap64 (x5+1))) else (some false))) else (none)) else (none)) else (some true)
def laws_eqAddrS.f (k:Nat) (l0:List (S24)) (l1:List (S24)):Option (Bool):=if (l0.length:Int)=(l1.length:Int) then (laws_eqAddrS.l0 k l0 l1 0) else (some false)
def laws_eqAddrS.T6:Bool × List (List Nat × List Nat):=(true,[([],[]),([],[]),([0,1],[0,1]),([2],[2]),([],[]),([],[]),([4,5],[4,5]),([6],[6]),([3,7],[3,7]),([8],[8])])
def laws_eqAddrS.B6:List Nat:=[0,0,3,7,0,0,48,112,255,511]
theorem laws_eqAddrS.tab6:rtab .any (opsOf Tryz.f82 6)=laws_eqAddrS.T6:=by kernel_rfl
theorem laws_eqAddrS.bits6:waitsOk laws_eqAddrS.T6.2 laws_eqAddrS.B6=true:=by kernel_rfl
set_option maxHeartbeats 8000000 in
set_option maxRecDepth 100000 in
theorem laws_eqAddrS.calls (k:Nat) (A0:Option Addr) (c0:Nat) (l0:List (S24)) (A1:Option Addr) (c1:Nat) (l1:List (S24)) (r:Bool) (w:World) (dr:Kd.C k24 w A0 l0.length l0) (dt:l0.length≤c0) (nu:Kd.C k24 w A1 l1.length l1) (nv:l1.length≤c1) (h:laws_eqAddrS.f k l0 l1=some r) :
 Calls Tryz.prog 82 #[.slice A0 l0.length c0,.slice A1 l1.length c1] w fun e w'=>e=.returned (.bool r)∧Below w.heap.size w w':=by
 have hu24:=Tryz.underlying24
 have cW:=zA dr
 have fH:=zA dt
 clear dr dt
 have nw:=zA nu
 have Da:=zA nv
 clear nu nv
 have HB:=zA (Below.refl w.heap.size w)
 have H:(if (l0.length:Int)=(l1.length:Int) then (laws_eqAddrS.l0 k l0 l1 0) else (some false))=some r:=h
 clear h
 by_cases c3:(l0.length:Int)=(l1.length:Int)
 rotate_left
 ·rw [if_neg c3] at H
  have c3b0:((l0.length:Int)==(l1.length:Int))=false:=beq_eq_false_iff_ne.mpr c3
  have c3b1:((l0.length:Int) != (l1.length:Int))=true:=bne_iff_ne.mpr c3
  have c3b2:(l0.length==l1.length)=false:=by first|simpa using c3|(simp at c3 ⊢;omega)
  obtain rfl:=Option.some.inj H
  go_enter Tryz.func82,Tryz.ntmps82
  go_wp2
  go_ret
  exact ⟨zT,zB⟩
 rw [if_pos c3] at H
 have c3b0:((l0.length:Int)==(l1.length:Int))=true:=beq_iff_eq.mpr c3
 have c3b1:((l0.length:Int) != (l1.length:Int))=false:=bne_eq_false_iff_eq.mpr c3
 have c3b2:(l0.length==l1.length)=true:=by first|simpa using c3|(simp at c3 ⊢;omega)
 clear c3
 have H':=zA H
 clear H
 go_enter Tryz.func82,Tryz.ntmps82
 go_wp2
 go_loopg [5] k (fun kq v5 w'=>∃ (ae:Int),v5=.int .i64 ae∧Aside0 (laws_eqAddrS.l0 kq l0 l1 ae=some r)∧Aside0 (kq≤k)∧Aside0 (Below w.heap.size w w'))
 case atStart=>exact ⟨(0),zY3,H',⟨Nat.le_refl _⟩,⟨zB⟩⟩
 case round =>
  clear H'
  try clear c1
  try clear p2
  try clear c3
  try clear c3b0
  try clear c3b1
  try clear c3b2
  obtain ⟨ae,rfl,HA,HK1,HB⟩:=hrel
  cases gk with
  | zero=>exact absurd HA.out (by simp [laws_eqAddrS.l0])
  | succ k1 =>
   have H:=HA.out
   clear HA
   simp only [laws_eqAddrS.l0] at H
   by_cases c4:ae < (l0.length:Int)
   rotate_left
   ·rw [if_neg c4] at H
    have c4b0:decide (ae < (l0.length:Int))=false:=decide_eq_false c4
    clear c4
    obtain rfl:=Option.some.inj H
    go_wp2
    go_ret
    exact ⟨zT,zB⟩
   rw [if_pos c4] at H
   have c4b0:decide (ae < (l0.length:Int))=true:=decide_eq_true c4
   clear c4
   obtain ⟨c5,H⟩:=zp H
   have c5b0:decide (0≤ae)=true:=decide_eq_true c5
   clear c5
   obtain ⟨c6,H⟩:=zp H
   have c6b0:decide (ae < (l1.length:Int))=true:=decide_eq_true c6
   clear c6
   replace H:=Option.bind_eq_some_iff.mp H
   obtain ⟨bR,fI,H⟩:=H
   try dsimp only at H
   have A7:=zA fI
   clear fI
   by_cases c8:bR=true
   rotate_left
   ·replace c8:=Bool.eq_false_iff.mpr c8
    subst c8
    rw [if_neg zfn] at H
    obtain rfl:=Option.some.inj H
    try go_wp2
    replace HB:=zA (below_drew1 HB.out)
    have du:0≤(ae:Int):=of_decide_eq_true zY1
    have dv:ae < (l0.length:Int):=of_decide_eq_true zY1
    obtain ⟨gw,fJ,fx,ie⟩:=at_T24 cW.out ae du dv
    have js:=ie
    have jt:=fx
    cases fJ
    replace fx:=(HB.out.cell (World.block_lt_of_cell? w _ fx)).trans fx
    replace ie:=(HB.out.cell (World.block_lt_of_cell? w _ ie)).trans ie
    replace du:=eq_true du
    replace dv:=eq_true dv
    have ep:0≤(ae:Int):=of_decide_eq_true zY1
    have er:ae < (l1.length:Int):=of_decide_eq_true zY1
    obtain ⟨ig,ii,ga,ij⟩:=at_T24 nw.out ae ep er
    have ju:=ij
    have jv:=ga
    cases ii
    replace ga:=(HB.out.cell (World.block_lt_of_cell? w _ ga)).trans ga
    replace ij:=(HB.out.cell (World.block_lt_of_cell? w _ ij)).trans ij
    replace ep:=eq_true ep
    replace er:=eq_true er
    refine start_ (n:=10) (S:=fun w'=>w'.cell? (gw.add ((ae).toNat * 2))=some (.string ((zq6 l0 ae).f0))∧w'.cell? ⟨(gw.add ((ae).toNat * 2)).block,(gw.add ((ae).toNat * 2)).off+1,none⟩=some (.string ((zq6 l0 ae).f1))∧w'.cell? (ig.add ((ae).toNat * 2))=some (.string ((zq6 l1 ae).f0))∧w'.cell? ⟨(ig.add ((ae).toNat * 2)).block,(ig.add ((ae).toNat * 2)).off+1,none⟩=some (.string ((zq6 l1 ae).f1))) (ds:=[]) #[false,false,false,false,false,false,false,false,false,false] zY2 rfl rfl ⟨((HB.out.cell (World.block_lt_of_cell? w _ jt)).trans jt),((HB.out.cell (World.block_lt_of_cell? w _ js)).trans js),((HB.out.cell (World.block_lt_of_cell? w _ jv)).trans jv),((HB.out.cell (World.block_lt_of_cell? w _ ju)).trans ju)⟩ (fun hHeld=>?_);refine with_tabW laws_eqAddrS.tab6 laws_eqAddrS.bits6 (fun HT_ HW_=>?_)
    generalize wr.drew=gv at HB fx ie ga ij hHeld ⊢
    refine pure_ (i:=0) (N:=some 17) (v:=?_) (a':=?_) #[true,false,false,false,false,false,false,false,false,false] rfl rfl (any_of HT_.out zY2) (fun _ _ _ h=>h) (Or.inl ⟨by rfl,?_⟩) ?_ ?_
    rotate_left
    ·intro w'
     go_simp
     with_reducible rfl
    rotate_left
    ·simp only [Act.put,zL0,zL1,zL2,i64_w,i32_w]
     rfl
    refine pure_ (i:=1) (N:=some 18) (v:=?_) (a':=?_) #[true,true,false,false,false,false,false,false,false,false] rfl rfl (any_of HT_.out zY2) (fun _ _ _ h=>h) (Or.inl ⟨by rfl,?_⟩) ?_ ?_
    rotate_left
    ·intro w'
     go_simp
     with_reducible rfl
    rotate_left
    ·simp only [Act.put,zL0,zL1,zL2,i64_w,i32_w]
     rfl
    refine pure_ (i:=2) (N:=some 19) (v:=?_) (a':=?_) #[true,true,true,false,false,false,false,false,false,false] rfl rfl (any_of HT_.out zY2) (fun _ _ _ h=>h) (Or.inl ⟨by rfl,?_⟩) ?_ ?_
    rotate_left
    ·intro w'
     go_simp
     with_reducible rfl
    rotate_left
    ·simp only [Act.put,zL0,zL1,zL2,i64_w,i32_w]
     rfl
    refine pure_ (i:=4) (N:=some 21) (v:=?_) (a':=?_) #[true,true,true,false,true,false,false,false,false,false] rfl rfl (any_of HT_.out zY2) (fun _ _ _ h=>h) (Or.inl ⟨by rfl,?_⟩) ?_ ?_
    rotate_left
    ·intro w'
     go_simp
     with_reducible rfl
    rotate_left
    ·simp only [Act.put,zL0,zL1,zL2,i64_w,i32_w]
     rfl
    refine pure_ (i:=5) (N:=some 22) (v:=?_) (a':=?_) #[true,true,true,false,true,true,false,false,false,false] rfl rfl (any_of HT_.out zY2) (fun _ _ _ h=>h) (Or.inl ⟨by rfl,?_⟩) ?_ ?_
    rotate_left
    ·intro w'
     go_simp
     with_reducible rfl
    rotate_left
    ·simp only [Act.put,zL0,zL1,zL2,i64_w,i32_w]
     rfl
    refine pure_ (i:=6) (N:=some 23) (v:=?_) (a':=?_) #[true,true,true,false,true,true,true,false,false,false] rfl rfl (any_of HT_.out zY2) (fun _ _ _ h=>h) (Or.inl ⟨by rfl,?_⟩) ?_ ?_
    rotate_left
    ·intro w'
     go_simp
     with_reducible rfl
    rotate_left
    ·simp only [Act.put,zL0,zL1,zL2,i64_w,i32_w]
     rfl
    refine take_ (i:=3) (N:=some 20) (v:=?_) (a':=?_) #[true,true,true,true,true,true,true,false,false,false] rfl rfl (take_ofW HT_.out HW_.out zY2) (fun _ _ _ h=>h) (Or.inl ⟨by rfl,?_⟩) hHeld ?_ ?_
    rotate_left
    ·rintro w' ⟨s0,s1,s2,s3⟩
     go_simp
     with_reducible rfl
    rotate_left
    ·simp only [Act.put,zL0,zL1,zL2,i64_w,i32_w]
     rfl
    refine take_ (i:=7) (N:=some 24) (v:=?_) (a':=?_) #[true,true,true,true,true,true,true,true,false,false] rfl rfl (take_ofW HT_.out HW_.out zY2) (fun _ _ _ h=>h) (Or.inl ⟨by rfl,?_⟩) hHeld ?_ ?_
    rotate_left
    ·rintro w' ⟨s0,s1,s2,s3⟩
     go_simp
     with_reducible rfl
    rotate_left
    ·simp only [Act.put,zL0,zL1,zL2,i64_w,i32_w]
     rfl
    refine one_ (i:=8) (N:=some 25) #[true,true,true,true,true,true,true,true,true,false] rfl rfl (one_of HT_.out zY2) zY4 (fun K hK=>?_)
    refine goes_ Tryz.func40 zY2 rfl #[.agg #[.string ((zq6 l0 ae).f0),.string ((zq6 l0 ae).f1)],.agg #[.string ((zq6 l1 ae).f0),.string ((zq6 l1 ae).f1)]] zY30 rfl rfl zY0 ?_
    with_reducible refine (laws_eqAddr.calls ((zq6 l0 ae).f0) ((zq6 l0 ae).f1) ((zq6 l1 ae).f0) ((zq6 l1 ae).f1) false _ A7.out).mono ?_
    rintro e gx ⟨rfl,hb⟩
    refine ⟨_,rfl,?_⟩
    replace HB:=zA (zq0 zB hb)
    (try clear hb)
    refine hK.out _ _ ⟨((HB.out.cell (World.block_lt_of_cell? w _ jt)).trans jt),((HB.out.cell (World.block_lt_of_cell? w _ js)).trans js),((HB.out.cell (World.block_lt_of_cell? w _ jv)).trans jv),((HB.out.cell (World.block_lt_of_cell? w _ ju)).trans ju)⟩ (fun hHeld=>?_)
    clear hK K
    refine norm_ (a':=?_) ?_ ?_
    rotate_left
    ·show Act.put _ (some 25) _=_
     simp only [Act.put,zL0,zL1,zL2,i64_w,i32_w]
     rfl
    refine pure_ (i:=9) (N:=some 26) (v:=?_) (a':=?_) #[true,true,true,true,true,true,true,true,true,true] rfl rfl (any_of HT_.out zY2) (fun _ _ _ h=>h) (Or.inl ⟨by rfl,?_⟩) ?_ ?_
    rotate_left
    ·intro w'
     go_simp
     with_reducible rfl
    rotate_left
    ·simp only [Act.put,zL0,zL1,zL2,i64_w,i32_w]
     rfl
    refine done_ (done_of HT_.out zY2) ?_
    try go_wp2
    go_ret
    exact ⟨zT,zB⟩
   subst c8
   rw [if_pos rfl] at H
   have H':=zA H
   clear H
   try go_wp2
   replace HB:=zA (below_drew1 HB.out)
   have du:0≤(ae:Int):=of_decide_eq_true zY1
   have dv:ae < (l0.length:Int):=of_decide_eq_true zY1
   obtain ⟨gw,fJ,fx,ie⟩:=at_T24 cW.out ae du dv
   have js:=ie
   have jt:=fx
   cases fJ
   replace fx:=(HB.out.cell (World.block_lt_of_cell? w _ fx)).trans fx
   replace ie:=(HB.out.cell (World.block_lt_of_cell? w _ ie)).trans ie
   replace du:=eq_true du
   replace dv:=eq_true dv
   have ep:0≤(ae:Int):=of_decide_eq_true zY1
   have er:ae < (l1.length:Int):=of_decide_eq_true zY1
   obtain ⟨ig,ii,ga,ij⟩:=at_T24 nw.out ae ep er
   have ju:=ij
   have jv:=ga
   cases ii
   replace ga:=(HB.out.cell (World.block_lt_of_cell? w _ ga)).trans ga
   replace ij:=(HB.out.cell (World.block_lt_of_cell? w _ ij)).trans ij
   replace ep:=eq_true ep
   replace er:=eq_true er
   refine start_ (n:=10) (S:=fun w'=>w'.cell? (gw.add ((ae).toNat * 2))=some (.string ((zq6 l0 ae).f0))∧w'.cell? ⟨(gw.add ((ae).toNat * 2)).block,(gw.add ((ae).toNat * 2)).off+1,none⟩=some (.string ((zq6 l0 ae).f1))∧w'.cell? (ig.add ((ae).toNat * 2))=some (.string ((zq6 l1 ae).f0))∧w'.cell? ⟨(ig.add ((ae).toNat * 2)).block,(ig.add ((ae).toNat * 2)).off+1,none⟩=some (.string ((zq6 l1 ae).f1))) (ds:=[]) #[false,false,false,false,false,false,false,false,false,false] zY2 rfl rfl ⟨((HB.out.cell (World.block_lt_of_cell? w _ jt)).trans jt),((HB.out.cell (World.block_lt_of_cell? w _ js)).trans js),((HB.out.cell (World.block_lt_of_cell? w _ jv)).trans jv),((HB.out.cell (World.block_lt_of_cell? w _ ju)).trans ju)⟩ (fun hHeld=>?_);refine with_tabW laws_eqAddrS.tab6 laws_eqAddrS.bits6 (fun HT_ HW_=>?_)
   generalize wr.drew=w9 at HB fx ie ga ij hHeld ⊢
   refine pure_ (i:=0) (N:=some 17) (v:=?_) (a':=?_) #[true,false,false,false,false,false,false,false,false,false] rfl rfl (any_of HT_.out zY2) (fun _ _ _ h=>h) (Or.inl ⟨by rfl,?_⟩) ?_ ?_
   rotate_left
   ·intro w'
    go_simp
    with_reducible rfl
   rotate_left
   ·simp only [Act.put,zL0,zL1,zL2,i64_w,i32_w]
    rfl
   refine pure_ (i:=1) (N:=some 18) (v:=?_) (a':=?_) #[true,true,false,false,false,false,false,false,false,false] rfl rfl (any_of HT_.out zY2) (fun _ _ _ h=>h) (Or.inl ⟨by rfl,?_⟩) ?_ ?_
   rotate_left
   ·intro w'
    go_simp
    with_reducible rfl
   rotate_left
   ·simp only [Act.put,zL0,zL1,zL2,i64_w,i32_w]
    rfl
   refine pure_ (i:=2) (N:=some 19) (v:=?_) (a':=?_) #[true,true,true,false,false,false,false,false,false,false] rfl rfl (any_of HT_.out zY2) (fun _ _ _ h=>h) (Or.inl ⟨by rfl,?_⟩) ?_ ?_
   rotate_left
   ·intro w'
    go_simp
    with_reducible rfl
   rotate_left
   ·simp only [Act.put,zL0,zL1,zL2,i64_w,i32_w]
    rfl
   refine pure_ (i:=4) (N:=some 21) (v:=?_) (a':=?_) #[true,true,true,false,true,false,false,false,false,false] rfl rfl (any_of HT_.out zY2) (fun _ _ _ h=>h) (Or.inl ⟨by rfl,?_⟩) ?_ ?_
   rotate_left
   ·intro w'
    go_simp
    with_reducible rfl
   rotate_left
   ·simp only [Act.put,zL0,zL1,zL2,i64_w,i32_w]
    rfl
   refine pure_ (i:=5) (N:=some 22) (v:=?_) (a':=?_) #[true,true,true,false,true,true,false,false,false,false] rfl rfl (any_of HT_.out zY2) (fun _ _ _ h=>h) (Or.inl ⟨by rfl,?_⟩) ?_ ?_
   rotate_left
   ·intro w'
    go_simp
    with_reducible rfl
   rotate_left
   ·simp only [Act.put,zL0,zL1,zL2,i64_w,i32_w]
    rfl
   refine pure_ (i:=6) (N:=some 23) (v:=?_) (a':=?_) #[true,true,true,false,true,true,true,false,false,false] rfl rfl (any_of HT_.out zY2) (fun _ _ _ h=>h) (Or.inl ⟨by rfl,?_⟩) ?_ ?_
   rotate_left
   ·intro w'
    go_simp
    with_reducible rfl
   rotate_left
   ·simp only [Act.put,zL0,zL1,zL2,i64_w,i32_w]
    rfl
   refine take_ (i:=3) (N:=some 20) (v:=?_) (a':=?_) #[true,true,true,true,true,true,true,false,false,false] rfl rfl (take_ofW HT_.out HW_.out zY2) (fun _ _ _ h=>h) (Or.inl ⟨by rfl,?_⟩) hHeld ?_ ?_
   rotate_left
   ·rintro w' ⟨s0,s1,s2,s3⟩
    go_simp
    with_reducible rfl
   rotate_left
   ·simp only [Act.put,zL0,zL1,zL2,i64_w,i32_w]
    rfl
   refine take_ (i:=7) (N:=some 24) (v:=?_) (a':=?_) #[true,true,true,true,true,true,true,true,false,false] rfl rfl (take_ofW HT_.out HW_.out zY2) (fun _ _ _ h=>h) (Or.inl ⟨by rfl,?_⟩) hHeld ?_ ?_
   rotate_left
   ·rintro w' ⟨s0,s1,s2,s3⟩
    go_simp
    with_reducible rfl
   rotate_left
   ·simp only [Act.put,zL0,zL1,zL2,i64_w,i32_w]
    rfl
   refine one_ (i:=8) (N:=some 25) #[true,true,true,true,true,true,true,true,true,false] rfl rfl (one_of HT_.out zY2) zY4 (fun K hK=>?_)
   refine goes_ Tryz.func40 zY2 rfl #[.agg #[.string ((zq6 l0 ae).f0),.string ((zq6 l0 ae).f1)],.agg #[.string ((zq6 l1 ae).f0),.string ((zq6 l1 ae).f1)]] zY30 rfl rfl zY0 ?_
   with_reducible refine (laws_eqAddr.calls ((zq6 l0 ae).f0) ((zq6 l0 ae).f1) ((zq6 l1 ae).f0) ((zq6 l1 ae).f1) true _ A7.out).mono ?_
   rintro e cv ⟨rfl,hb⟩
   refine ⟨_,rfl,?_⟩
   replace HB:=zA (zq0 zB hb)
   (try clear hb)
   refine hK.out _ _ ⟨((HB.out.cell (World.block_lt_of_cell? w _ jt)).trans jt),((HB.out.cell (World.block_lt_of_cell? w _ js)).trans js),((HB.out.cell (World.block_lt_of_cell? w _ jv)).trans jv),((HB.out.cell (World.block_lt_of_cell? w _ ju)).trans ju)⟩ (fun hHeld=>?_)
   clear hK K
   refine norm_ (a':=?_) ?_ ?_
   rotate_left
   ·show Act.put _ (some 25) _=_
    simp only [Act.put,zL0,zL1,zL2,i64_w,i32_w]
    rfl
   refine pure_ (i:=9) (N:=some 26) (v:=?_) (a':=?_) #[true,true,true,true,true,true,true,true,true,true] rfl rfl (any_of HT_.out zY2) (fun _ _ _ h=>h) (Or.inl ⟨by rfl,?_⟩) ?_ ?_
   rotate_left
   ·intro w'
    go_simp
    with_reducible rfl
   rotate_left
   ·simp only [Act.put,zL0,zL1,zL2,i64_w,i32_w]
    rfl
   refine done_ (done_of HT_.out zY2) ?_
   try go_wp2
   go_roundg k1
   case measure=>have:=HK1.out;omega
   case rel=>exact ⟨(wrap64 (ae+1)),zY3,H',⟨by have:=HK1.out;omega⟩,⟨zB⟩⟩
end Go.Proofs.YtjdpdkdhfnpcgaaGreatDoor.Q
