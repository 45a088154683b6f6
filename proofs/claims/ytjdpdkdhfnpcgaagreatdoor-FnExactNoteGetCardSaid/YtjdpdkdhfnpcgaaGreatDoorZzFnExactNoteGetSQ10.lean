/- Of a text of ours what this claim needs. -/
import Derived.Test.YtjdpdkdhfnpcgaaGreatDoorZzFnExactNoteGetSQ0
import Derived.Test.YtjdpdkdhfnpcgaaGreatDoorZzFnExactNoteGetSAu
import Derived.Test.YtjdpdkdhfnpcgaaGreatDoorZzFnExactNoteGetSQ8
import Derived.Test.YtjdpdkdhfnpcgaaGreatDoorZzFnExactNoteGetSQ9
namespace Go.Proofs.YtjdpdkdhfnpcgaaGreatDoor.Q
open Go.RowKit Go.Proofs.YtjdpdkdhfnpcgaaGreatDoorW.PrintWords Go.Proofs.YtjdpdkdhfnpcgaaGreatDoorW.PrintLast Go.Proofs.YtjdpdkdhfnpcgaaGreatDoorW.PrintMore
attribute [local go_sem] max2_int min2_int max_two min_two max_three min_three max_four min_four
set_option linter.unusedVariables false
set_option linter.unusedSimpArgs false
def spec_l6Body.f (k:Nat) (aa:Int) (ab:Int) (aC:ByteArray) (aD:ByteArray) (aE:Int) (av:ByteArray) (aw:ByteArray) (al:List (S24)) (an:List ByteArray):Option (ByteArray):=if aa=1 then ((spec_l1Dec.f k aE).bind fun cX=>(if 4+cX.size≤9223372036854775807 then (if ((⟨#[97,100,100,32]⟩:ByteArray)++cX).size+1≤9223372036854775807 then ((spec_l2Put.f k av aw al an).bind fun dU=>(if (((⟨#[97,100,100,32]⟩:ByteArray)++cX)++(⟨#[10]⟩:ByteArray)).size+dU.size≤9223372036854775807 then (some ((((⟨#[97,100,100,32]⟩:ByteArray)++cX)++(⟨#[10]⟩:ByteArray))++dU)) else (none))) else (none)) else (none))) else (if aa=2 then ((spec_l1Dec.f k ab).bind fun aW=>(if 5+aW.size≤9223372036854775807 then (if ((⟨#[100,111,110,101,32]⟩:ByteArray)++aW).size+1≤9223372036854775807 then ((spec_l1Put.f aC aD).bind fun dx=>(if (((⟨#[100,111,110,101,32]⟩:ByteArray)++aW)++(⟨#[32]⟩:ByteArray)).size+dx.size≤9223372036854775807 then (some ((((⟨#[100,111,110,101,32]⟩:ByteArray)++aW)++(⟨#[32]⟩:ByteArray))++dx)) else (none))) else (none)) else (none))) else ((spec_l1Dec.f k ab).bind fun bE=>(if 6+bE.size≤9223372036854775807 then (if ((⟨#[108,97,116,101,114,32]⟩:ByteArray)++bE).size+1≤9223372036854775807 then ((spec_l1Put.f aC aD).bind fun ca=>(if (((⟨#[108,97,116,101,114,32]⟩:ByteArray)++bE)++(⟨#[32]⟩:ByteArray)).size+ca.size≤9223372036854775807 then (if ((((⟨#[108,97,116,101,114,32]⟩:ByteArray)++bE)++(⟨#[32]⟩:ByteArray))++ca).size+1≤9223372036854775807 then ((spec_l1Dec.f k aE).bind fun gV=>(if (((((⟨#[108,97,116,101,114,32]⟩:ByteArray)++bE)++(⟨#[32]⟩:ByteArray))++ca)++(⟨#[32]⟩:ByteArray)).size+gV.size≤9223372036854775807 then (some ((((((⟨#[108,97,116,101,114,32]⟩:ByteArray)++bE)++(⟨#[32]⟩:ByteArray))++ca)++(⟨#[32]⟩:ByteArray))++gV)) else (none))) else (none)) else (none))) else (none)) else (none))))
def spec_l6Body.T3:Bool × List (List Nat × List Nat):=(true,[([],[]),([0],[0]),([1],[1]),([2],[2]),([3],[3]),([],[]),([5],[5]),([6,2],[6]),([4,7],[4,7]),([8,7,0,1,2,3,4,5,6,7,8],[8])])
def spec_l6Body.B3:List Nat:=[0,1,3,7,15,0,32,103,255,511]
theorem spec_l6Body.tab3:rtab .any (opsOf Tryz.f26 3)=spec_l6Body.T3:=by kernel_rfl
theorem spec_l6Body.bits3:waitsOk spec_l6Body.T3.2 spec_l6Body.B3=true:=by kernel_rfl
def spec_l6Body.T5:Bool × List (List Nat × List Nat):=(true,[([],[]),([0],[0]),([1],[1]),([2],[2]),([3],[3]),([],[]),([5],[5]),([6,2],[6]),([4,7],[4,7]),([8,7,0,1,2,3,4,5,6,7,8],[8])])
def spec_l6Body.B5:List Nat:=[0,1,3,7,15,0,32,103,255,511]
theorem spec_l6Body.tab5:rtab .any (opsOf Tryz.f26 5)=spec_l6Body.T5:=by kernel_rfl
theorem spec_l6Body.bits5:waitsOk spec_l6Body.T5.2 spec_l6Body.B5=true:=by kernel_rfl
def spec_l6Body.T6:Bool × List (List Nat × List Nat):=(true,[([],[]),([0],[0]),([1],[1]),([2],[2]),([3],[3]),([],[]),([5],[5]),([6,2],[6]),([4,7],[4,7]),([8],[8]),([],[]),([10],[10]),([11,7],[11]),([9,12],[9,12]),([13,12,0,1,2,3,4,5,6,7,8,9,10,11,12,13],[13])])
def spec_l6Body.B6:List Nat:=[0,1,3,7,15,0,32,103,255,511,0,1024,3303,8191,16383]
theorem spec_l6Body.tab6:rtab .any (opsOf Tryz.f26 6)=spec_l6Body.T6:=by kernel_rfl
theorem spec_l6Body.bits6:waitsOk spec_l6Body.T6.2 spec_l6Body.B6=true:=by kernel_rfl
set_option maxHeartbeats 8000000 in
set_option maxRecDepth 100000 in
theorem spec_l6Body.calls (k:Nat) (aa:Int) (ab:Int) (aC:ByteArray) (aD:ByteArray) (aE:Int) (av:ByteArray) (aw:ByteArray) (bS:Option Addr) (bT:Nat) (al:List (S24)) (bU:Option Addr) (bV:Nat) (an:List ByteArray) (r:ByteArray) (w:World) (fK:Kd.C k24 w bS al.length al) (fL:al.length≤bT) (fM:Kd.C Kd.string w bU an.length an) (fN:an.length≤bV) (h:spec_l6Body.f k aa ab aC aD aE av aw al an=some r) :
 Calls Tryz.prog 26 #[.agg #[.int .i64 aa,.int .i64 ab,.string aC,.string aD,.int .i64 aE,.string av,.string aw,.slice bS al.length bT,.slice bU an.length bV]] w fun e w'=>e=.returned (.string r)∧Below w.heap.size w w':=by
 have hu30:=Tryz.underlying30
 have hu28:=Tryz.underlying28
 have hu24:=Tryz.underlying24
 have eC:=zA fK
 have eD:=zA fL
 clear fK fL
 have eE:=zA fM
 have eF:=zA fN
 clear fM fN
 have HB:=zA (Below.refl w.heap.size w)
 have H:(if aa=1 then ((spec_l1Dec.f k aE).bind fun cX=>(if 4+cX.size≤9223372036854775807 then (if (bz6++cX).size+1≤9223372036854775807 then ((spec_l2Put.f k av aw al an).bind fun dU=>(if ((bz6++cX)++bz7).size+dU.size≤9223372036854775807 then (some (((bz6++cX)++bz7)++dU)) else (none))) else (none)) else (none))) else (if aa=2 then ((spec_l1Dec.f k ab).bind fun aW=>(if 5+aW.size≤9223372036854775807 then (if (bz10++aW).size+1≤9223372036854775807 then ((spec_l1Put.f aC aD).bind fun dx=>(if ((bz10++aW)++bz1).size+dx.size≤9223372036854775807 then (some (((bz10++aW)++bz1)++dx)) else (none))) else (none)) else (none))) else ((spec_l1Dec.f k ab).bind fun bE=>(if 6+bE.size≤9223372036854775807 then (if (bz2++bE).size+1≤9223372036854775807 then ((spec_l1Put.f aC aD).bind fun ca=>(if ((bz2++bE)++bz1).size+ca.size≤9223372036854775807 then (if (((bz2++bE)++bz1)++ca).size+1≤9223372036854775807 then ((spec_l1Dec.f k aE).bind fun gV=>(if ((((bz2++bE)++bz1)++ca)++bz1).size+gV.size≤9223372036854775807 then (some (((((bz2++bE)++bz1)++ca)++bz1)++gV)) else (none))) else (none)) else (none))) else (none)) else (none)))))=some r:=h
 clear h
 by_cases c2:aa=1
 ·rw [if_pos c2] at H
  have c2b0:(aa==1)=true:=beq_iff_eq.mpr c2
  have c2b1:(aa != 1)=false:=bne_eq_false_iff_eq.mpr c2
  clear c2
  replace H:=Option.bind_eq_some_iff.mp H
  obtain ⟨cX,bu,H⟩:=H
  try dsimp only at H
  have A3:=zA bu
  clear bu
  obtain ⟨c4,H⟩:=zp H
  have c4b0:=eq_true c4
  have c4b1:decide (4+cX.size≤9223372036854775807)=true:=decide_eq_true c4
  try have c4b2:(9223372036854775807 < 4+cX.size)=False:=eq_false (Nat.not_lt.2 c4)
  obtain ⟨c5,H⟩:=zp H
  have c5b0:=eq_true c5
  have c5b1:decide ((bz6++cX).size+1≤9223372036854775807)=true:=decide_eq_true c5
  try have c5b2:(9223372036854775807 < (bz6++cX).size+1)=False:=eq_false (Nat.not_lt.2 c5)
  try have c5b3:=c5
  try simp only [ByteArray.size_append',sz1,sz2,sz3,sz4,sz5,sz6,sz7,sz8] at c5b3
  try have c5b4:=eq_true c5b3
  try have c5b5:=eq_false (Nat.not_lt.2 c5b3)
  replace H:=Option.bind_eq_some_iff.mp H
  obtain ⟨dU,es,H⟩:=H
  try dsimp only at H
  have A6:=zA es
  clear es
  obtain ⟨c7,H⟩:=zp H
  have c7b0:=eq_true c7
  have c7b1:decide (((bz6++cX)++bz7).size+dU.size≤9223372036854775807)=true:=decide_eq_true c7
  try have c7b2:(9223372036854775807 < ((bz6++cX)++bz7).size+dU.size)=False:=eq_false (Nat.not_lt.2 c7)
  try have c7b3:=c7
  try simp only [ByteArray.size_append',sz1,sz2,sz3,sz4,sz5,sz6,sz7,sz8] at c7b3
  try have c7b4:=eq_true c7b3
  try have c7b5:=eq_false (Nat.not_lt.2 c7b3)
  obtain rfl:=Option.some.inj H
  go_enter Tryz.func26,Tryz.ntmps26
  try go_wp2_with (first|((with_reducible refine zq5 (N:=1) rfl ?_);refine zE (N:=1) (cs:=#[.int .i64 aa,.int .i64 ab,.string aC,.string aD,.int .i64 aE,.string av,.string aw,.slice bS al.length bT,.slice bU an.length bV]) (t:=30) ?_;intro dz hg w8 hbox hb;have ax:=zA hbox;have y3:=zA (zS hg:w.heap.size≤dz);have y4:=zA (zS hg:w.heap.size≤dz);replace HB:=zA (zq0 zB hb);clear hb hbox hg;obtain ⟨_,_,_,_,_,_,_,_,_⟩:=zc9 ax.out;obtain ⟨_,_,_,_,_,_,_,_,_⟩:=zf9 ax.out))
  replace ax:=zA (blk_drew ax.out);replace HB:=zA (below_drew1 HB.out)
  refine start_ (n:=10) (S:=fun w'=>w'.cell? ⟨dz,0,none⟩=some (.int .i64 aa)∧w'.cell? ⟨dz,1,none⟩=some (.int .i64 ab)∧w'.cell? ⟨dz,2,none⟩=some (.string aC)∧w'.cell? ⟨dz,3,none⟩=some (.string aD)∧w'.cell? ⟨dz,4,none⟩=some (.int .i64 aE)∧w'.cell? ⟨dz,5,none⟩=some (.string av)∧w'.cell? ⟨dz,6,none⟩=some (.string aw)∧w'.cell? ⟨dz,7,none⟩=some (.slice bS al.length bT)∧w'.cell? ⟨dz,8,none⟩=some (.slice bU an.length bV)) (ds:=[]) #[false,false,false,false,false,false,false,false,false,false] zY2 rfl rfl ⟨zq3 ax.out 0,zq3 ax.out 1,zq3 ax.out 2,zq3 ax.out 3,zq3 ax.out 4,zq3 ax.out 5,zq3 ax.out 6,zq3 ax.out 7,zq3 ax.out 8⟩ (fun hHeld=>?_);refine with_tabW spec_l6Body.tab3 spec_l6Body.bits3 (fun HT_ HW_=>?_)
  generalize w8.drew=cv at ax HB hHeld ⊢
  refine pure_ (i:=0) (N:=some 7) (v:=?_) (a':=?_) #[true,false,false,false,false,false,false,false,false,false] rfl rfl (any_of HT_.out zY2) (fun _ _ _ h=>h) (Or.inl ⟨by rfl,?_⟩) ?_ ?_
  rotate_left
  ·intro w'
   go_simp
   with_reducible rfl
  rotate_left
  ·simp only [Act.put,zL0,zL1,zL2,i64_w,i32_w]
   rfl
  refine pure_ (i:=5) (N:=some 12) (v:=?_) (a':=?_) #[true,false,false,false,false,true,false,false,false,false] rfl rfl (any_of HT_.out zY2) (fun _ _ _ h=>h) (Or.inl ⟨by rfl,?_⟩) ?_ ?_
  rotate_left
  ·intro w'
   go_simp
   with_reducible rfl
  rotate_left
  ·simp only [Act.put,zL0,zL1,zL2,i64_w,i32_w]
   rfl
  refine take_ (i:=1) (N:=some 8) (v:=?_) (a':=?_) #[true,true,false,false,false,true,false,false,false,false] rfl rfl (take_ofW HT_.out HW_.out zY2) (fun _ _ _ h=>h) (Or.inl ⟨by rfl,?_⟩) hHeld ?_ ?_
  rotate_left
  ·rintro w' ⟨s0,s1,s2,s3,s4,s5,s6,s7,s8⟩
   go_simp
   with_reducible rfl
  rotate_left
  ·simp only [Act.put,zL0,zL1,zL2,i64_w,i32_w]
   rfl
  refine take_ (i:=6) (N:=some 13) (v:=?_) (a':=?_) #[true,true,false,false,false,true,true,false,false,false] rfl rfl (take_ofW HT_.out HW_.out zY2) (fun _ _ _ h=>h) (Or.inl ⟨by rfl,?_⟩) hHeld ?_ ?_
  rotate_left
  ·rintro w' ⟨s0,s1,s2,s3,s4,s5,s6,s7,s8⟩
   go_simp
   with_reducible rfl
  rotate_left
  ·simp only [Act.put,zL0,zL1,zL2,i64_w,i32_w]
   rfl
  refine one_ (i:=2) (N:=some 9) #[true,true,true,false,false,true,true,false,false,false] rfl rfl (one_of HT_.out zY2) zY4 (fun K hK=>?_)
  refine goes_ Tryz.func60 zY2 rfl #[.int .i64 aE] zY30 rfl rfl zY0 ?_
  with_reducible refine (spec_l1Dec.calls k aE cX _ A3.out).mono ?_
  rintro e gv ⟨rfl,hb⟩
  refine ⟨_,rfl,?_⟩
  replace ax:=zA (zq1 (zK ax.out) hb);replace HB:=zA (zq0 zB hb)
  (try clear hb)
  refine hK.out _ _ ⟨zq3 ax.out 0,zq3 ax.out 1,zq3 ax.out 2,zq3 ax.out 3,zq3 ax.out 4,zq3 ax.out 5,zq3 ax.out 6,zq3 ax.out 7,zq3 ax.out 8⟩ (fun hHeld=>?_)
  clear hK K
  refine norm_ (a':=?_) ?_ ?_
  rotate_left
  ·show Act.put _ (some 9) _=_
   simp only [Act.put,zL0,zL1,zL2,i64_w,i32_w]
   rfl
  refine pure_ (i:=3) (N:=some 10) (v:=?_) (a':=?_) #[true,true,true,true,false,true,true,false,false,false] rfl rfl (any_of HT_.out zY2) (fun _ _ _ h=>h) (Or.inl ⟨by rfl,?_⟩) ?_ ?_
  rotate_left
  ·intro w'
   go_simp
   with_reducible rfl
  rotate_left
  ·simp only [Act.put,zL0,zL1,zL2,i64_w,i32_w]
   rfl
  refine pure_ (i:=4) (N:=some 11) (v:=?_) (a':=?_) #[true,true,true,true,true,true,true,false,false,false] rfl rfl (any_of HT_.out zY2) (fun _ _ _ h=>h) (Or.inl ⟨by rfl,?_⟩) ?_ ?_
  rotate_left
  ·intro w'
   go_simp
   with_reducible rfl
  rotate_left
  ·simp only [Act.put,zL0,zL1,zL2,i64_w,i32_w]
   rfl
  refine one_ (i:=7) (N:=some 14) #[true,true,true,true,true,true,true,true,false,false] rfl rfl (one_of HT_.out zY2) zY4 (fun K hK=>?_)
  refine goes_ Tryz.func61 zY2 rfl #[.agg #[.string av,.string aw,.slice bS al.length bT,.slice bU an.length bV]] zY30 rfl rfl zY0 ?_
  with_reducible refine (spec_l2Put.calls k av aw _ _ al _ _ an dU _ ?side1 ?side2 ?side3 ?side4 A6.out).mono ?_
  (case side1=>exact zC (Kd.z0 eC.out HB.out))
  (case side2=>exact eD.out)
  (case side3=>exact zC (Kd.z0 eE.out HB.out))
  (case side4=>exact eF.out)
  rintro e gx ⟨rfl,hb⟩
  refine ⟨_,rfl,?_⟩
  replace ax:=zA (zq1 (zK ax.out) hb);replace HB:=zA (zq0 zB hb)
  (try clear hb)
  refine hK.out _ _ ⟨zq3 ax.out 0,zq3 ax.out 1,zq3 ax.out 2,zq3 ax.out 3,zq3 ax.out 4,zq3 ax.out 5,zq3 ax.out 6,zq3 ax.out 7,zq3 ax.out 8⟩ (fun hHeld=>?_)
  clear hK K
  refine norm_ (a':=?_) ?_ ?_
  rotate_left
  ·show Act.put _ (some 14) _=_
   simp only [Act.put,zL0,zL1,zL2,i64_w,i32_w]
   rfl
  refine pure_ (i:=8) (N:=some 15) (v:=?_) (a':=?_) #[true,true,true,true,true,true,true,true,true,false] rfl rfl (any_of HT_.out zY2) (fun _ _ _ h=>h) (Or.inl ⟨by rfl,?_⟩) ?_ ?_
  rotate_left
  ·intro w'
   go_simp
   with_reducible rfl
  rotate_left
  ·simp only [Act.put,zL0,zL1,zL2,i64_w,i32_w]
   rfl
  refine pure_ (i:=9) (N:=some 2) (v:=?_) (a':=?_) #[true,true,true,true,true,true,true,true,true,true] rfl rfl (any_of HT_.out zY2) (fun _ _ _ h=>h) (Or.inl ⟨by rfl,?_⟩) ?_ ?_
  rotate_left
  ·intro w'
   go_simp
   with_reducible rfl
  rotate_left
  ·simp only [Act.put,zL0,zL1,zL2,i64_w,i32_w]
   rfl
  refine done_ (done_of HT_.out zY2) ?_
  try go_wp2
  go_ret
  exact ⟨zT,zB⟩
 rw [if_neg c2] at H
 have c2b0:(aa==1)=false:=beq_eq_false_iff_ne.mpr c2
 have c2b1:(aa != 1)=true:=bne_iff_ne.mpr c2
 by_cases bj:aa=2
 ·rw [if_pos bj] at H
  have c13b0:(aa==2)=true:=beq_iff_eq.mpr bj
  have c13b1:(aa != 2)=false:=bne_eq_false_iff_eq.mpr bj
  clear bj
  replace H:=Option.bind_eq_some_iff.mp H
  obtain ⟨aW,y5,H⟩:=H
  try dsimp only at H
  have D5:=zA y5
  clear y5
  obtain ⟨bW,H⟩:=zp H
  have c15b0:=eq_true bW
  have c15b1:decide (5+aW.size≤9223372036854775807)=true:=decide_eq_true bW
  try have c15b2:(9223372036854775807 < 5+aW.size)=False:=eq_false (Nat.not_lt.2 bW)
  obtain ⟨ck,H⟩:=zp H
  have c16b0:=eq_true ck
  have c16b1:decide ((bz10++aW).size+1≤9223372036854775807)=true:=decide_eq_true ck
  try have c16b2:(9223372036854775807 < (bz10++aW).size+1)=False:=eq_false (Nat.not_lt.2 ck)
  try have c16b3:=ck
  try simp only [ByteArray.size_append',sz1,sz2,sz3,sz4,sz5,sz6,sz7,sz8] at c16b3
  try have c16b4:=eq_true c16b3
  try have c16b5:=eq_false (Nat.not_lt.2 c16b3)
  replace H:=Option.bind_eq_some_iff.mp H
  obtain ⟨dx,e8,H⟩:=H
  try dsimp only at H
  have et:=zA e8
  clear e8
  obtain ⟨bK,H⟩:=zp H
  have c18b0:=eq_true bK
  have c18b1:decide (((bz10++aW)++bz1).size+dx.size≤9223372036854775807)=true:=decide_eq_true bK
  try have c18b2:(9223372036854775807 < ((bz10++aW)++bz1).size+dx.size)=False:=eq_false (Nat.not_lt.2 bK)
  try have c18b3:=bK
  try simp only [ByteArray.size_append',sz1,sz2,sz3,sz4,sz5,sz6,sz7,sz8] at c18b3
  try have c18b4:=eq_true c18b3
  try have c18b5:=eq_false (Nat.not_lt.2 c18b3)
  obtain rfl:=Option.some.inj H
  go_enter Tryz.func26,Tryz.ntmps26
  try go_wp2_with (first|((with_reducible refine zq5 (N:=1) rfl ?_);refine zE (N:=1) (cs:=#[.int .i64 aa,.int .i64 ab,.string aC,.string aD,.int .i64 aE,.string av,.string aw,.slice bS al.length bT,.slice bU an.length bV]) (t:=30) ?_;intro dz hg eS hbox hb;have ax:=zA hbox;have y3:=zA (zS hg:w.heap.size≤dz);have y4:=zA (zS hg:w.heap.size≤dz);replace HB:=zA (zq0 zB hb);clear hb hbox hg;obtain ⟨_,_,_,_,_,_,_,_,_⟩:=zc9 ax.out;obtain ⟨_,_,_,_,_,_,_,_,_⟩:=zf9 ax.out))
  replace ax:=zA (blk_drew ax.out);replace HB:=zA (below_drew1 HB.out)
  refine start_ (n:=10) (S:=fun w'=>w'.cell? ⟨dz,0,none⟩=some (.int .i64 aa)∧w'.cell? ⟨dz,1,none⟩=some (.int .i64 ab)∧w'.cell? ⟨dz,2,none⟩=some (.string aC)∧w'.cell? ⟨dz,3,none⟩=some (.string aD)∧w'.cell? ⟨dz,4,none⟩=some (.int .i64 aE)∧w'.cell? ⟨dz,5,none⟩=some (.string av)∧w'.cell? ⟨dz,6,none⟩=some (.string aw)∧w'.cell? ⟨dz,7,none⟩=some (.slice bS al.length bT)∧w'.cell? ⟨dz,8,none⟩=some (.slice bU an.length bV)) (ds:=[]) #[false,false,false,false,false,false,false,false,false,false] zY2 rfl rfl ⟨zq3 ax.out 0,zq3 ax.out 1,zq3 ax.out 2,zq3 ax.out 3,zq3 ax.out 4,zq3 ax.out 5,zq3 ax.out 6,zq3 ax.out 7,zq3 ax.out 8⟩ (fun hHeld=>?_);refine with_tabW spec_l6Body.tab5 spec_l6Body.bits5 (fun HT_ HW_=>?_)
  generalize eS.drew=yG at ax HB hHeld ⊢
  refine pure_ (i:=0) (N:=some 18) (v:=?_) (a':=?_) #[true,false,false,false,false,false,false,false,false,false] rfl rfl (any_of HT_.out zY2) (fun _ _ _ h=>h) (Or.inl ⟨by rfl,?_⟩) ?_ ?_
  rotate_left
  ·intro w'
   go_simp
   with_reducible rfl
  rotate_left
  ·simp only [Act.put,zL0,zL1,zL2,i64_w,i32_w]
   rfl
  refine pure_ (i:=5) (N:=some 23) (v:=?_) (a':=?_) #[true,false,false,false,false,true,false,false,false,false] rfl rfl (any_of HT_.out zY2) (fun _ _ _ h=>h) (Or.inl ⟨by rfl,?_⟩) ?_ ?_
  rotate_left
  ·intro w'
   go_simp
   with_reducible rfl
  rotate_left
  ·simp only [Act.put,zL0,zL1,zL2,i64_w,i32_w]
   rfl
  refine take_ (i:=1) (N:=some 19) (v:=?_) (a':=?_) #[true,true,false,false,false,true,false,false,false,false] rfl rfl (take_ofW HT_.out HW_.out zY2) (fun _ _ _ h=>h) (Or.inl ⟨by rfl,?_⟩) hHeld ?_ ?_
  rotate_left
  ·rintro w' ⟨s0,s1,s2,s3,s4,s5,s6,s7,s8⟩
   go_simp
   with_reducible rfl
  rotate_left
  ·simp only [Act.put,zL0,zL1,zL2,i64_w,i32_w]
   rfl
  refine take_ (i:=6) (N:=some 24) (v:=?_) (a':=?_) #[true,true,false,false,false,true,true,false,false,false] rfl rfl (take_ofW HT_.out HW_.out zY2) (fun _ _ _ h=>h) (Or.inl ⟨by rfl,?_⟩) hHeld ?_ ?_
  rotate_left
  ·rintro w' ⟨s0,s1,s2,s3,s4,s5,s6,s7,s8⟩
   go_simp
   with_reducible rfl
  rotate_left
  ·simp only [Act.put,zL0,zL1,zL2,i64_w,i32_w]
   rfl
  refine one_ (i:=2) (N:=some 20) #[true,true,true,false,false,true,true,false,false,false] rfl rfl (one_of HT_.out zY2) zY4 (fun K hK=>?_)
  refine goes_ Tryz.func60 zY2 rfl #[.int .i64 ab] zY30 rfl rfl zY0 ?_
  with_reducible refine (spec_l1Dec.calls k ab aW _ D5.out).mono ?_
  rintro e qm ⟨rfl,hb⟩
  refine ⟨_,rfl,?_⟩
  replace ax:=zA (zq1 (zK ax.out) hb);replace HB:=zA (zq0 zB hb)
  (try clear hb)
  refine hK.out _ _ ⟨zq3 ax.out 0,zq3 ax.out 1,zq3 ax.out 2,zq3 ax.out 3,zq3 ax.out 4,zq3 ax.out 5,zq3 ax.out 6,zq3 ax.out 7,zq3 ax.out 8⟩ (fun hHeld=>?_)
  clear hK K
  refine norm_ (a':=?_) ?_ ?_
  rotate_left
  ·show Act.put _ (some 20) _=_
   simp only [Act.put,zL0,zL1,zL2,i64_w,i32_w]
   rfl
  refine pure_ (i:=3) (N:=some 21) (v:=?_) (a':=?_) #[true,true,true,true,false,true,true,false,false,false] rfl rfl (any_of HT_.out zY2) (fun _ _ _ h=>h) (Or.inl ⟨by rfl,?_⟩) ?_ ?_
  rotate_left
  ·intro w'
   go_simp
   with_reducible rfl
  rotate_left
  ·simp only [Act.put,zL0,zL1,zL2,i64_w,i32_w]
   rfl
  refine pure_ (i:=4) (N:=some 22) (v:=?_) (a':=?_) #[true,true,true,true,true,true,true,false,false,false] rfl rfl (any_of HT_.out zY2) (fun _ _ _ h=>h) (Or.inl ⟨by rfl,?_⟩) ?_ ?_
  rotate_left
  ·intro w'
   go_simp
   with_reducible rfl
  rotate_left
  ·simp only [Act.put,zL0,zL1,zL2,i64_w,i32_w]
   rfl
  refine one_ (i:=7) (N:=some 25) #[true,true,true,true,true,true,true,true,false,false] rfl rfl (one_of HT_.out zY2) zY4 (fun K hK=>?_)
  refine goes_ Tryz.func62 zY2 rfl #[.agg #[.string aC,.string aD]] zY30 rfl rfl zY0 ?_
  with_reducible refine (spec_l1Put.calls aC aD dx _ et.out).mono ?_
  rintro e kI ⟨rfl,hb⟩
  refine ⟨_,rfl,?_⟩
  replace ax:=zA (zq1 (zK ax.out) hb);replace HB:=zA (zq0 zB hb)
  (try clear hb)
  refine hK.out _ _ ⟨zq3 ax.out 0,zq3 ax.out 1,zq3 ax.out 2,zq3 ax.out 3,zq3 ax.out 4,zq3 ax.out 5,zq3 ax.out 6,zq3 ax.out 7,zq3 ax.out 8⟩ (fun hHeld=>?_)
  clear hK K
  refine norm_ (a':=?_) ?_ ?_
  rotate_left
  ·show Act.put _ (some 25) _=_
   simp only [Act.put,zL0,zL1,zL2,i64_w,i32_w]
   rfl
  refine pure_ (i:=8) (N:=some 26) (v:=?_) (a':=?_) #[true,true,true,true,true,true,true,true,true,false] rfl rfl (any_of HT_.out zY2) (fun _ _ _ h=>h) (Or.inl ⟨by rfl,?_⟩) ?_ ?_
  rotate_left
  ·intro w'
   go_simp
   with_reducible rfl
  rotate_left
  ·simp only [Act.put,zL0,zL1,zL2,i64_w,i32_w]
   rfl
  refine pure_ (i:=9) (N:=some 2) (v:=?_) (a':=?_) #[true,true,true,true,true,true,true,true,true,true] rfl rfl (any_of HT_.out zY2) (fun _ _ _ h=>h) (Or.inl ⟨by rfl,?_⟩) ?_ ?_
  rotate_left
  ·intro w'
   go_simp
   with_reducible rfl
  rotate_left
  ·simp only [Act.put,zL0,zL1,zL2,i64_w,i32_w]
   rfl
  refine done_ (done_of HT_.out zY2) ?_
  try go_wp2
  go_ret
  exact ⟨zT,zB⟩
 rw [if_neg bj] at H
 have c13b0:(aa==2)=false:=beq_eq_false_iff_ne.mpr bj
 have c13b1:(aa != 2)=true:=bne_iff_ne.mpr bj
 replace H:=Option.bind_eq_some_iff.mp H
 obtain ⟨bE,kK,H⟩:=H
 try dsimp only at H
 have hF:=zA kK
 clear kK
 obtain ⟨hH,H⟩:=zp H
 have c25b0:=eq_true hH
 have c25b1:decide (6+bE.size≤9223372036854775807)=true:=decide_eq_true hH
 try have c25b2:(9223372036854775807 < 6+bE.size)=False:=eq_false (Nat.not_lt.2 hH)
 obtain ⟨fE,H⟩:=zp H
 have c26b0:=eq_true fE
 have c26b1:decide ((bz2++bE).size+1≤9223372036854775807)=true:=decide_eq_true fE
 try have c26b2:(9223372036854775807 < (bz2++bE).size+1)=False:=eq_false (Nat.not_lt.2 fE)
 try have c26b3:=fE
 try simp only [ByteArray.size_append',sz1,sz2,sz3,sz4,sz5,sz6,sz7,sz8] at c26b3
 try have c26b4:=eq_true c26b3
 try have c26b5:=eq_false (Nat.not_lt.2 c26b3)
 replace H:=Option.bind_eq_some_iff.mp H
 obtain ⟨ca,y6,H⟩:=H
 try dsimp only at H
 have D6:=zA y6
 clear y6
 obtain ⟨kL,H⟩:=zp H
 have c28b0:=eq_true kL
 have c28b1:decide (((bz2++bE)++bz1).size+ca.size≤9223372036854775807)=true:=decide_eq_true kL
 try have c28b2:(9223372036854775807 < ((bz2++bE)++bz1).size+ca.size)=False:=eq_false (Nat.not_lt.2 kL)
 try have c28b3:=kL
 try simp only [ByteArray.size_append',sz1,sz2,sz3,sz4,sz5,sz6,sz7,sz8] at c28b3
 try have c28b4:=eq_true c28b3
 try have c28b5:=eq_false (Nat.not_lt.2 c28b3)
 obtain ⟨lM,H⟩:=zp H
 have c29b0:=eq_true lM
 have c29b1:decide ((((bz2++bE)++bz1)++ca).size+1≤9223372036854775807)=true:=decide_eq_true lM
 try have c29b2:(9223372036854775807 < (((bz2++bE)++bz1)++ca).size+1)=False:=eq_false (Nat.not_lt.2 lM)
 try have c29b3:=lM
 try simp only [ByteArray.size_append',sz1,sz2,sz3,sz4,sz5,sz6,sz7,sz8] at c29b3
 try have c29b4:=eq_true c29b3
 try have c29b5:=eq_false (Nat.not_lt.2 c29b3)
 replace H:=Option.bind_eq_some_iff.mp H
 obtain ⟨gV,nG,H⟩:=H
 try dsimp only at H
 have bu:=zA nG
 clear nG
 obtain ⟨i8,H⟩:=zp H
 have c31b0:=eq_true i8
 have c31b1:decide (((((bz2++bE)++bz1)++ca)++bz1).size+gV.size≤9223372036854775807)=true:=decide_eq_true i8
 try have c31b2:(9223372036854775807 < ((((bz2++bE)++bz1)++ca)++bz1).size+gV.size)=False:=eq_false (Nat.not_lt.2 i8)
 try have c31b3:=i8
 try simp only [ByteArray.size_append',sz1,sz2,sz3,sz4,sz5,sz6,sz7,sz8] at c31b3
 try have c31b4:=eq_true c31b3
 try have c31b5:=eq_false (Nat.not_lt.2 c31b3)
 obtain rfl:=Option.some.inj H
 go_enter Tryz.func26,Tryz.ntmps26
 try go_wp2_with (first|((with_reducible refine zq5 (N:=1) rfl ?_);refine zE (N:=1) (cs:=#[.int .i64 aa,.int .i64 ab,.string aC,.string aD,.int .i64 aE,.string av,.string aw,.slice bS al.length bT,.slice bU an.length bV]) (t:=30) ?_;intro dz hg sR hbox hb;have ax:=zA hbox;have y3:=zA (zS hg:w.heap.size≤dz);have y4:=zA (zS hg:w.heap.size≤dz);replace HB:=zA (zq0 zB hb);clear hb hbox hg;obtain ⟨_,_,_,_,_,_,_,_,_⟩:=zc9 ax.out;obtain ⟨_,_,_,_,_,_,_,_,_⟩:=zf9 ax.out))
 replace ax:=zA (blk_drew ax.out);replace HB:=zA (below_drew1 HB.out)
 refine start_ (n:=15) (S:=fun w'=>w'.cell? ⟨dz,0,none⟩=some (.int .i64 aa)∧w'.cell? ⟨dz,1,none⟩=some (.int .i64 ab)∧w'.cell? ⟨dz,2,none⟩=some (.string aC)∧w'.cell? ⟨dz,3,none⟩=some (.string aD)∧w'.cell? ⟨dz,4,none⟩=some (.int .i64 aE)∧w'.cell? ⟨dz,5,none⟩=some (.string av)∧w'.cell? ⟨dz,6,none⟩=some (.string aw)∧w'.cell? ⟨dz,7,none⟩=some (.slice bS al.length bT)∧w'.cell? ⟨dz,8,none⟩=some (.slice bU an.length bV)) (ds:=[]) #[false,false,false,false,false,false,false,false,false,false,false,false,false,false,false] zY2 rfl rfl ⟨zq3 ax.out 0,zq3 ax.out 1,zq3 ax.out 2,zq3 ax.out 3,zq3 ax.out 4,zq3 ax.out 5,zq3 ax.out 6,zq3 ax.out 7,zq3 ax.out 8⟩ (fun hHeld=>?_);refine with_tabW spec_l6Body.tab6 spec_l6Body.bits6 (fun HT_ HW_=>?_)
 generalize sR.drew=n2 at ax HB hHeld ⊢
 refine pure_ (i:=0) (N:=some 27) (v:=?_) (a':=?_) #[true,false,false,false,false,false,false,false,false,false,false,false,false,false,false] rfl rfl (any_of HT_.out zY2) (fun _ _ _ h=>h) (Or.inl ⟨by rfl,?_⟩) ?_ ?_
 rotate_left
 ·intro w'
  go_simp
  with_reducible rfl
 rotate_left
 ·simp only [Act.put,zL0,zL1,zL2,i64_w,i32_w]
  rfl
 refine pure_ (i:=5) (N:=some 32) (v:=?_) (a':=?_) #[true,false,false,false,false,true,false,false,false,false,false,false,false,false,false] rfl rfl (any_of HT_.out zY2) (fun _ _ _ h=>h) (Or.inl ⟨by rfl,?_⟩) ?_ ?_
 rotate_left
 ·intro w'
  go_simp
  with_reducible rfl
 rotate_left
 ·simp only [Act.put,zL0,zL1,zL2,i64_w,i32_w]
  rfl
 refine pure_ (i:=10) (N:=some 37) (v:=?_) (a':=?_) #[true,false,false,false,false,true,false,false,false,false,true,false,false,false,false] rfl rfl (any_of HT_.out zY2) (fun _ _ _ h=>h) (Or.inl ⟨by rfl,?_⟩) ?_ ?_
 rotate_left
 ·intro w'
  go_simp
  with_reducible rfl
 rotate_left
 ·simp only [Act.put,zL0,zL1,zL2,i64_w,i32_w]
  rfl
 refine take_ (i:=1) (N:=some 28) (v:=?_) (a':=?_) #[true,true,false,false,false,true,false,false,false,false,true,false,false,false,false] rfl rfl (take_ofW HT_.out HW_.out zY2) (fun _ _ _ h=>h) (Or.inl ⟨by rfl,?_⟩) hHeld ?_ ?_
 rotate_left
 ·rintro w' ⟨s0,s1,s2,s3,s4,s5,s6,s7,s8⟩
  go_simp
  with_reducible rfl
 rotate_left
 ·simp only [Act.put,zL0,zL1,zL2,i64_w,i32_w]
  rfl
 refine take_ (i:=6) (N:=some 33) (v:=?_) (a':=?_) #[true,true,false,false,false,true,true,false,false,false,true,false,false,false,false] rfl rfl (take_ofW HT_.out HW_.out zY2) (fun _ _ _ h=>h) (Or.inl ⟨by rfl,?_⟩) hHeld ?_ ?_
 rotate_left
 ·rintro w' ⟨s0,s1,s2,s3,s4,s5,s6,s7,s8⟩
  go_simp
  with_reducible rfl
 rotate_left
 ·simp only [Act.put,zL0,zL1,zL2,i64_w,i32_w]
  rfl
 refine take_ (i:=11) (N:=some 38) (v:=?_) (a':=?_) #[true,true,false,false,false,true,true,false,false,false,true,true,false,false,false] rfl rfl (take_ofW HT_.out HW_.out zY2) (fun _ _ _ h=>h) (Or.inl ⟨by rfl,?_⟩) hHeld ?_ ?_
 rotate_left
 ·rintro w' ⟨s0,s1,s2,s3,s4,s5,s6,s7,s8⟩
  go_simp
  with_reducible rfl
 rotate_left
 ·simp only [Act.put,zL0,zL1,zL2,i64_w,i32_w]
  rfl
 refine one_ (i:=2) (N:=some 29) #[true,true,true,false,false,true,true,false,false,false,true,true,false,false,false] rfl rfl (one_of HT_.out zY2) zY4 (fun K hK=>?_)
 refine goes_ Tryz.func60 zY2 rfl #[.int .i64 ab] zY30 rfl rfl zY0 ?_
 with_reducible refine (spec_l1Dec.calls k ab bE _ hF.out).mono ?_
 rintro e mN ⟨rfl,hb⟩
 refine ⟨_,rfl,?_⟩
 replace ax:=zA (zq1 (zK ax.out) hb);replace HB:=zA (zq0 zB hb)
 (try clear hb)
 refine hK.out _ _ ⟨zq3 ax.out 0,zq3 ax.out 1,zq3 ax.out 2,zq3 ax.out 3,zq3 ax.out 4,zq3 ax.out 5,zq3 ax.out 6,zq3 ax.out 7,zq3 ax.out 8⟩ (fun hHeld=>?_)
 clear hK K
 refine norm_ (a':=?_) ?_ ?_
 rotate_left
 ·show Act.put _ (some 29) _=_
  simp only [Act.put,zL0,zL1,zL2,i64_w,i32_w]
  rfl
 refine pure_ (i:=3) (N:=some 30) (v:=?_) (a':=?_) #[true,true,true,true,false,true,true,false,false,false,true,true,false,false,false] rfl rfl (any_of HT_.out zY2) (fun _ _ _ h=>h) (Or.inl ⟨by rfl,?_⟩) ?_ ?_
 rotate_left
 ·intro w'
  go_simp
  with_reducible rfl
 rotate_left
 ·simp only [Act.put,zL0,zL1,zL2,i64_w,i32_w]
  rfl
 refine pure_ (i:=4) (N:=some 31) (v:=?_) (a':=?_) #[true,true,true,true,true,true,true,false,false,false,true,true,false,false,false] rfl rfl (any_of HT_.out zY2) (fun _ _ _ h=>h) (Or.inl ⟨by rfl,?_⟩) ?_ ?_
 rotate_left
 ·intro w'
  go_simp
  with_reducible rfl
 rotate_left
 ·simp only [Act.put,zL0,zL1,zL2,i64_w,i32_w]
  rfl
 refine one_ (i:=7) (N:=some 34) #[true,true,true,true,true,true,true,true,false,false,true,true,false,false,false] rfl rfl (one_of HT_.out zY2) zY4 (fun K hK=>?_)
 refine goes_ Tryz.func62 zY2 rfl #[.agg #[.string aC,.string aD]] zY30 rfl rfl zY0 ?_
 with_reducible refine (spec_l1Put.calls aC aD ca _ D6.out).mono ?_
 rintro e kw ⟨rfl,hb⟩
 refine ⟨_,rfl,?_⟩
 replace ax:=zA (zq1 (zK ax.out) hb);replace HB:=zA (zq0 zB hb)
 (try clear hb)
 refine hK.out _ _ ⟨zq3 ax.out 0,zq3 ax.out 1,zq3 ax.out 2,zq3 ax.out 3,zq3 ax.out 4,zq3 ax.out 5,zq3 ax.out 6,zq3 ax.out 7,zq3 ax.out 8⟩ (fun hHeld=>?_)
 clear hK K
 refine norm_ (a':=?_) ?_ ?_
 rotate_left
 ·show Act.put _ (some 34) _=_
  simp only [Act.put,zL0,zL1,zL2,i64_w,i32_w]
  rfl
 refine pure_ (i:=8) (N:=some 35) (v:=?_) (a':=?_) #[true,true,true,true,true,true,true,true,true,false,true,true,false,false,false] rfl rfl (any_of HT_.out zY2) (fun _ _ _ h=>h) (Or.inl ⟨by rfl,?_⟩) ?_ ?_
 rotate_left
 ·intro w'
  go_simp
  with_reducible rfl
 rotate_left
 ·simp only [Act.put,zL0,zL1,zL2,i64_w,i32_w]
  rfl
 refine pure_ (i:=9) (N:=some 36) (v:=?_) (a':=?_) #[true,true,true,true,true,true,true,true,true,true,true,true,false,false,false] rfl rfl (any_of HT_.out zY2) (fun _ _ _ h=>h) (Or.inl ⟨by rfl,?_⟩) ?_ ?_
 rotate_left
 ·intro w'
  go_simp
  with_reducible rfl
 rotate_left
 ·simp only [Act.put,zL0,zL1,zL2,i64_w,i32_w]
  rfl
 refine one_ (i:=12) (N:=some 39) #[true,true,true,true,true,true,true,true,true,true,true,true,true,false,false] rfl rfl (one_of HT_.out zY2) zY4 (fun K hK=>?_)
 refine goes_ Tryz.func60 zY2 rfl #[.int .i64 aE] zY30 rfl rfl zY0 ?_
 with_reducible refine (spec_l1Dec.calls k aE gV _ bu.out).mono ?_
 rintro e sS ⟨rfl,hb⟩
 refine ⟨_,rfl,?_⟩
 replace ax:=zA (zq1 (zK ax.out) hb);replace HB:=zA (zq0 zB hb)
 (try clear hb)
 refine hK.out _ _ ⟨zq3 ax.out 0,zq3 ax.out 1,zq3 ax.out 2,zq3 ax.out 3,zq3 ax.out 4,zq3 ax.out 5,zq3 ax.out 6,zq3 ax.out 7,zq3 ax.out 8⟩ (fun hHeld=>?_)
 clear hK K
 refine norm_ (a':=?_) ?_ ?_
 rotate_left
 ·show Act.put _ (some 39) _=_
  simp only [Act.put,zL0,zL1,zL2,i64_w,i32_w]
  rfl
 refine pure_ (i:=13) (N:=some 40) (v:=?_) (a':=?_) #[true,true,true,true,true,true,true,true,true,true,true,true,true,true,false] rfl rfl (any_of HT_.out zY2) (fun _ _ _ h=>h) (Or.inl ⟨by rfl,?_⟩) ?_ ?_
 rotate_left
 ·intro w'
  go_simp
  with_reducible rfl
 rotate_left
 ·simp only [Act.put,zL0,zL1,zL2,i64_w,i32_w]
  rfl
 refine pure_ (i:=14) (N:=some 2) (v:=?_) (a':=?_) #[true,true,true,true,true,true,true,true,true,true,true,true,true,true,true] rfl rfl (any_of HT_.out zY2) (fun _ _ _ h=>h) (Or.inl ⟨by rfl,?_⟩) ?_ ?_
 rotate_left
 ·intro w'
  go_simp
  with_reducible rfl
 rotate_left
 ·simp only [Act.put,zL0,zL1,zL2,i64_w,i32_w]
  rfl
 refine done_ (done_of HT_.out zY2) ?_
 try go_wp2
 go_ret
 exact ⟨zT,zB⟩
end Go.Proofs.YtjdpdkdhfnpcgaaGreatDoor.Q
