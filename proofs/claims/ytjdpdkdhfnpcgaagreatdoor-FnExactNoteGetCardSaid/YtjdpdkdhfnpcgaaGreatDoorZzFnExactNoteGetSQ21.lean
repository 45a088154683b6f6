/- Of a text of ours what this claim needs. -/
import Derived.Test.YtjdpdkdhfnpcgaaGreatDoorZzFnExactNoteGetSQ0
import Derived.Test.YtjdpdkdhfnpcgaaGreatDoorZzFnExactNoteGetSAu
import Derived.Test.YtjdpdkdhfnpcgaaGreatDoorZzFnExactNoteGetSQ4
import Derived.Test.YtjdpdkdhfnpcgaaGreatDoorZzFnExactNoteGetSQ5
namespace Go.Proofs.YtjdpdkdhfnpcgaaGreatDoor.Q
open Go.RowKit Go.Proofs.YtjdpdkdhfnpcgaaGreatDoorW.PrintWords Go.Proofs.YtjdpdkdhfnpcgaaGreatDoorW.PrintLast Go.Proofs.YtjdpdkdhfnpcgaaGreatDoorW.PrintMore
attribute [local go_sem] max2_int min2_int max_two min_two max_three min_three max_four min_four
set_option linter.unusedVariables false
set_option linter.unusedSimpArgs false
def spec_AddrGet.j0:Nat→ByteArray→Bool→Option (ByteArray × ByteArray × Bool)
 | 0,_,_=>none
 | k+1,x0,Eh=>if Eh=true then (some ((⟨#[]⟩:ByteArray),(⟨#[]⟩:ByteArray),false)) else (if 1≤(wrap64 ((x0.size:Int) - 1)) then (if (wrap64 ((x0.size:Int) - 1))≤(x0.size:Int) then ((spec_l1Cut.f k (x0.extract 1 ((wrap64 ((x0.size:Int) - 1)):Int).toNat) 64 2).bind fun ai=>(if (ai.length:Int)=2 then (if 0 < (ai.length:Int) then (if 1 < (ai.length:Int) then ((spec_l1AddrOk.f k (rdOf ByteArray.empty ai 0) (rdOf ByteArray.empty ai 1)).bind fun b7=>(if b7=true then (some (rdOf ByteArray.empty ai 0,rdOf ByteArray.empty ai 1,true)) else (some ((⟨#[]⟩:ByteArray),(⟨#[]⟩:ByteArray),false)))) else (none)) else (none)) else (some ((⟨#[]⟩:ByteArray),(⟨#[]⟩:ByteArray),false)))) else (none)) else (none))
def spec_AddrGet.f (k:Nat) (a0:ByteArray):Option (ByteArray × ByteArray × Bool):=if a0.toList=([60,62]:List UInt8) then (some ((⟨#[]⟩:ByteArray),(⟨#[]⟩:ByteArray),true)) else (if (a0.size:Int) < 2 then (spec_AddrGet.j0 k a0 true) else (if 0 < (a0.size:Int) then (if (bt a0 0)=60 then (if 0≤(wrap64 ((a0.size:Int) - 1)) then (if (wrap64 ((a0.size:Int) - 1)) < (a0.size:Int) then (spec_AddrGet.j0 k a0 ((bt a0 (wrap64 ((a0.size:Int) - 1))) != 62)) else (none)) else (none)) else (spec_AddrGet.j0 k a0 true)) else (none)))
def spec_AddrGet.T8:Bool × List (List Nat × List Nat):=(true,[([],[]),([0],[0]),([1],[1]),([],[]),([3],[3]),([4],[4]),([2,5],[2,5]),([],[]),([7,6,0,1,2,3,4,5,6,7],[6,7])])
def spec_AddrGet.B8:List Nat:=[0,1,3,0,8,24,63,0,255]
theorem spec_AddrGet.tab8:rtab .any (opsOf Tryz.f81 8)=spec_AddrGet.T8:=by kernel_rfl
theorem spec_AddrGet.bits8:waitsOk spec_AddrGet.T8.2 spec_AddrGet.B8=true:=by kernel_rfl
set_option maxHeartbeats 8000000 in
set_option maxRecDepth 100000 in
theorem spec_AddrGet.calls (k:Nat) (a0:ByteArray) (r1:ByteArray) (r2:ByteArray) (r3:Bool) (w:World) (h:spec_AddrGet.f k a0=some (r1,r2,r3)) :
 Calls Tryz.prog 81 #[.string a0] w fun e w'=>e=.returned (.tuple #[.agg #[.string r1,.string r2],.bool r3])∧Below w.heap.size w w':=by
 have hu24:=Tryz.underlying24
 have HB:=zA (Below.refl w.heap.size w)
 have H:(if a0.toList=([60,62]:List UInt8) then (some (bz0,bz0,true)) else (if (a0.size:Int) < 2 then (spec_AddrGet.j0 k a0 true) else (if 0 < (a0.size:Int) then (if (bt a0 0)=60 then (if 0≤(wrap64 ((a0.size:Int) - 1)) then (if (wrap64 ((a0.size:Int) - 1)) < (a0.size:Int) then (spec_AddrGet.j0 k a0 ((bt a0 (wrap64 ((a0.size:Int) - 1))) != 62)) else (none)) else (none)) else (spec_AddrGet.j0 k a0 true)) else (none))))=some (r1,r2,r3):=h
 clear h
 by_cases c2:a0.toList=([60,62]:List UInt8)
 ·rw [if_pos c2] at H
  have c2b0:(a0.toList==([60,62]:List UInt8))=true:=beq_iff_eq.mpr c2
  have c2b1:(a0.toList != ([60,62]:List UInt8))=false:=bne_eq_false_iff_eq.mpr c2
  clear c2
  simp only [Option.some.injEq,Prod.mk.injEq] at H
  obtain ⟨rfl,rfl,rfl⟩:=H
  go_enter Tryz.func81,Tryz.ntmps81
  go_wp2_with (first|((with_reducible refine zq5 (N:=2) rfl ?_);(try (refine gate_guard zY30 ?_;dsimp only));refine zE (N:=2) (cs:=#[.string bz0,.string bz0]) (t:=24) ?_;intro aV hg w3 hbox hb;have ag:=zA hbox;have iV:=zA (zS hg:w.heap.size≤aV);have lX:=zA (zS hg:w.heap.size≤aV);replace HB:=zA (zq0 zB hb);clear hb hbox hg;obtain ⟨mR,mS⟩:=zc2 ag.out;obtain ⟨mT,mU⟩:=zf2 ag.out))
  refine bodyPost_ret (zq13 rfl _ _ aV 24 #[.string bz0,.string bz0] (0,0) _ rfl (zG ag.out) Tryz.underlying24 rfl zY2) rfl ?_
  exact ⟨zT,zB⟩
 rw [if_neg c2] at H
 have c2b0:(a0.toList==([60,62]:List UInt8))=false:=beq_eq_false_iff_ne.mpr c2
 have c2b1:(a0.toList != ([60,62]:List UInt8))=true:=bne_iff_ne.mpr c2
 have iy:=zA H
 clear H
 go_enter Tryz.func81,Tryz.ntmps81
 go_upto_region 3 with (first|((with_reducible refine zq5 (N:=2) rfl ?_);(try (refine gate_guard zY30 ?_;dsimp only));refine zE (N:=2) (cs:=#[.string bz0,.string bz0]) (t:=24) ?_;intro aV hg w6 hbox hb;have ag:=zA hbox;have iV:=zA (zS hg:w.heap.size≤aV);have lX:=zA (zS hg:w.heap.size≤aV);replace HB:=zA (zq0 zB hb);clear hb hbox hg))
 (try simp only [Act.put,zL0,zL1,zL2])
 go_cut [24] (fun Ei wc=>∃ (kq:Nat) (qD:Bool),Ei=.bool qD∧Aside0 (spec_AddrGet.j0 kq a0 qD=some (r1,r2,r3))∧Aside0 (kq≤k)∧Aside0 (wc.heap[aV]?=some (.cells #[.string bz0,.string bz0] 24 (0,0)))∧Aside0 (Below w.heap.size w wc))
 case first =>
  have H:=iy.out
  clear iy
  by_cases c7:(a0.size:Int) < 2
  ·rw [if_pos c7] at H
   have c7b0:decide ((a0.size:Int) < 2)=true:=decide_eq_true c7
   have c7b1:decide (a0.size < 2)=true:=decide_eq_true zY6
   clear c7
   (first|rw [c7b0]|(simp only [i64_w,i32_w];rw [c7b0])|skip)
   have H':=zA H
   clear H
   go_wp2
   go_meet
   case rel=>exact ⟨_,(true),zY3,H',⟨by first|omega|exact Nat.le_refl _⟩,⟨zK ag.out⟩,⟨zB⟩⟩
  rw [if_neg c7] at H
  have c7b0:decide ((a0.size:Int) < 2)=false:=decide_eq_false c7
  have c7b1:decide (a0.size < 2)=false:=decide_eq_false zY6
  clear c7
  (first|rw [c7b0]|(simp only [i64_w,i32_w];rw [c7b0])|skip)
  obtain ⟨c8,H⟩:=zp H
  have c8b0:decide (0 < (a0.size:Int))=true:=decide_eq_true c8
  have c8b1:decide (0 < a0.size)=true:=decide_eq_true zY6
  clear c8
  by_cases ce:(bt a0 0)=60
  rotate_left
  ·rw [if_neg ce] at H
   have c10b0:((bt a0 0)==60)=false:=beq_eq_false_iff_ne.mpr ce
   have c10b1:((bt a0 0) != 60)=true:=bne_iff_ne.mpr ce
   have H':=zA H
   clear H
   have p9:0≤(0:Int):=zY6
   have q9:0 < a0.size:=(by have:(0:Int) < (a0.size:Int):=of_decide_eq_true zY1;omega)
   have uy:∀ h:0 < a0.size,((a0[0]'h).toNat:Int)=bt a0 0:=bt_at a0 0
   clear p9
   have qi9:(0 < (a0.size:Int))=True:=eq_true (of_decide_eq_true zY1)
   replace q9:=eq_true q9
   go_wp2
   go_meet
   case rel=>exact ⟨_,(true),zY3,H',⟨by first|omega|exact Nat.le_refl _⟩,⟨zK ag.out⟩,⟨zB⟩⟩
  rw [if_pos ce] at H
  have c10b0:((bt a0 0)==60)=true:=beq_iff_eq.mpr ce
  have c10b1:((bt a0 0) != 60)=false:=bne_eq_false_iff_eq.mpr ce
  clear ce
  obtain ⟨ja,hji11⟩:∃ j_:Int,(wrap64 ((a0.size:Int) - 1))=j_:=⟨_,rfl⟩
  replace H:(if 0≤(ja) then (if (ja) < (a0.size:Int) then (spec_AddrGet.j0 k a0 ((bt a0 (ja)) != 62)) else (none)) else (none))=some (r1,r2,r3):=by first|(rw [hji11] at H;exact H)|(simp only [hji11] at H ⊢;exact H)
  have hji11w:(IntKind.i64.wrap ((a0.size:Int) - 1))=ja:=(i64_w _).trans hji11
  obtain ⟨bH,H⟩:=zp H
  have c12b0:decide (0≤(ja))=true:=decide_eq_true bH
  clear bH
  obtain ⟨bj,H⟩:=zp H
  have c13b0:decide ((ja) < (a0.size:Int))=true:=decide_eq_true bj
  clear bj
  have H':=zA H
  clear H
  have p9:0≤(0:Int):=zY6
  have q9:0 < a0.size:=(by have:(0:Int) < (a0.size:Int):=of_decide_eq_true zY1;omega)
  have uy:∀ h:0 < a0.size,((a0[0]'h).toNat:Int)=bt a0 0:=bt_at a0 0
  clear p9
  have qi9:(0 < (a0.size:Int))=True:=eq_true (of_decide_eq_true zY1)
  replace q9:=eq_true q9
  have i6:0≤((ja):Int):=of_decide_eq_true zY1
  have i7:(ja) < (a0.size:Int):=of_decide_eq_true zY1
  have s9:=bt_at a0 (ja)
  replace i6:=eq_true i6
  replace i7:=eq_true i7
  go_wp2
  go_meet
  case rel=>exact ⟨_,(((bt a0 (ja)) != 62)),(by first|rfl|(simp;done)|(simp only [← hji11]<;>(first|rfl|simp))|(simp [*];done)),H',⟨by first|omega|exact Nat.le_refl _⟩,⟨zK ag.out⟩,⟨zB⟩⟩
 case rest =>
  clear iy
  try clear c1
  try clear p1
  try clear q1
  try clear lr
  try clear c2
  try clear c2b0
  try clear c2b1
  try clear p2
  try clear p6
  try clear c7
  try clear c7b0
  try clear c7b1
  try clear c8
  try clear c8b0
  try clear c8b1
  try clear p9
  try clear q9
  try clear uy
  try clear qi9
  try clear ce
  try clear c10b0
  try clear c10b1
  try clear bH
  try clear c12b0
  try clear bj
  try clear c13b0
  try clear i6
  try clear i7
  try clear s9
  try clear mR mS
  try clear mT mU
  try clear i6
  try clear p9
  try clear i7
  try clear q9
  obtain ⟨kq,qD,rfl,HA,HJ4,ag,HB⟩:=hcut
  cases kq with
  | zero=>exact absurd HA.out (by simp [spec_AddrGet.j0])
  | succ kj4 =>
   have H:=HA.out
   clear HA
   simp only [spec_AddrGet.j0] at H
   by_cases bW:qD=true
   ·subst bW
    rw [if_pos rfl] at H
    simp only [Option.some.injEq,Prod.mk.injEq] at H
    obtain ⟨rfl,rfl,rfl⟩:=H
    obtain ⟨_,_⟩:=zc2 ag.out
    obtain ⟨_,_⟩:=zf2 ag.out
    go_wp2
    refine bodyPost_ret (zq13 rfl _ _ aV 24 #[.string bz0,.string bz0] (0,0) _ rfl (zG ag.out) Tryz.underlying24 rfl zY2) rfl ?_
    exact ⟨zT,zB⟩
   replace bW:=Bool.eq_false_iff.mpr bW
   subst bW
   rw [if_neg zfn] at H
   obtain ⟨e7,H⟩:=zp H
   have c17b0:=eq_true e7
   have c17b1:decide (1≤(wrap64 ((a0.size:Int) - 1)))=true:=decide_eq_true e7
   clear e7
   obtain ⟨bK,H⟩:=zp H
   have c18b0:=eq_true bK
   have c18b1:decide ((wrap64 ((a0.size:Int) - 1))≤(a0.size:Int))=true:=decide_eq_true bK
   clear bK
   replace H:=Option.bind_eq_some_iff.mp H
   obtain ⟨ai,fP,H⟩:=H
   try dsimp only at H
   have dE:=zA fP
   clear fP
   by_cases ch:(ai.length:Int)=2
   rotate_left
   ·rw [if_neg ch] at H
    have c20b0:((ai.length:Int)==2)=false:=beq_eq_false_iff_ne.mpr ch
    have c20b1:((ai.length:Int) != 2)=true:=bne_iff_ne.mpr ch
    simp only [Option.some.injEq,Prod.mk.injEq] at H
    obtain ⟨rfl,rfl,rfl⟩:=H
    go_wp2_with (first|((with_reducible refine zq2 (f:=78) rfl ?_);refine zq4 (some 31) rfl rfl Tryz.func78 zY2 rfl #[.string (a0.extract 1 ((wrap64 ((a0.size:Int) - 1)):Int).toNat),.int .u8 64,.int .i64 2] rfl zY0 ?_;(with_reducible refine (spec_l1Cut.calls kj4 (a0.extract 1 ((wrap64 ((a0.size:Int) - 1)):Int).toNat) 64 2 ai _ dE.out).mono ?_);rintro e qn ⟨ob,rfl,ar,hb⟩;refine ⟨_,rfl,?_⟩;have bz:=zA (Kd.z6 ar (zq7 zB));replace ag:=zA (zq1 (zK ag.out) hb);replace HB:=zA (zq0 zB hb);clear hb ar;obtain ⟨MC,MD,Ej⟩:=Kd.z9 bz.out;subst Ej;obtain ⟨_,_⟩:=zc2 ag.out;obtain ⟨_,_⟩:=zf2 ag.out))
    refine bodyPost_ret (zq13 rfl _ _ aV 24 #[.string bz0,.string bz0] (0,0) _ rfl (zG ag.out) Tryz.underlying24 rfl zY2) rfl ?_
    exact ⟨zT,zB⟩
   rw [if_pos ch] at H
   have c20b0:((ai.length:Int)==2)=true:=beq_iff_eq.mpr ch
   have c20b1:((ai.length:Int) != 2)=false:=bne_eq_false_iff_eq.mpr ch
   clear ch
   obtain ⟨dQ,H⟩:=zp H
   have c21b0:decide (0 < (ai.length:Int))=true:=decide_eq_true dQ
   have c21b1:decide (0 < ai.length)=true:=decide_eq_true zY6
   clear dQ
   obtain ⟨cI,H⟩:=zp H
   have c22b0:decide (1 < (ai.length:Int))=true:=decide_eq_true cI
   have c22b1:decide (1 < ai.length)=true:=decide_eq_true zY6
   clear cI
   replace H:=Option.bind_eq_some_iff.mp H
   obtain ⟨b7,kG,H⟩:=H
   try dsimp only at H
   have kH:=zA kG
   clear kG
   by_cases gi:b7=true
   rotate_left
   ·replace gi:=Bool.eq_false_iff.mpr gi
    subst gi
    rw [if_neg zfn] at H
    simp only [Option.some.injEq,Prod.mk.injEq] at H
    obtain ⟨rfl,rfl,rfl⟩:=H
    try go_wp2_with (first|((with_reducible refine zq2 (f:=78) rfl ?_);refine zq4 (some 31) rfl rfl Tryz.func78 zY2 rfl #[.string (a0.extract 1 ((wrap64 ((a0.size:Int) - 1)):Int).toNat),.int .u8 64,.int .i64 2] rfl zY0 ?_;(with_reducible refine (spec_l1Cut.calls kj4 (a0.extract 1 ((wrap64 ((a0.size:Int) - 1)):Int).toNat) 64 2 ai _ dE.out).mono ?_);rintro e kw ⟨ob,rfl,ar,hb⟩;refine ⟨_,rfl,?_⟩;have bz:=zA (Kd.z6 ar (zq7 zB));replace ag:=zA (zq1 (zK ag.out) hb);replace HB:=zA (zq0 zB hb);clear hb ar;obtain ⟨ME,MF,Ek⟩:=Kd.z9 bz.out;subst Ek))
    replace bz:=zA (Kd.z3 bz.out);replace ag:=zA (blk_drew ag.out);replace HB:=zA (below_drew1 HB.out)
    have lY:0≤(0:Int):=zY6
    have lZ:0 < (ai.length:Int):=of_decide_eq_true zY1
    obtain ⟨jK,uA,jL⟩:=Kd.z11 (Kd.z8 bz.out).2.2 0 lY lZ
    cases uA
    have qi161:(0 < ai.length)=True:=eq_true zY6
    (try rw [show ((0:Int)).toNat=0 from rfl] at jL)
    (try rw [Addr.add_zero'] at jL)
    replace lY:=eq_true lY
    replace lZ:=eq_true lZ
    have l2:0≤(1:Int):=zY6
    have l3:1 < (ai.length:Int):=of_decide_eq_true zY1
    obtain ⟨uB,uC,jM⟩:=Kd.z11 (Kd.z8 bz.out).2.2 1 l2 l3
    obtain rfl:jK=uB:=(by injection uC)
    (try simp only [show (1:Int).toNat=1 from rfl,Nat.reduceMul,Nat.reduceEqDiff,Go.Addr.add,↓reduceIte] at jM)
    have qi162:(1 < ai.length)=True:=eq_true zY6
    (try rw [show ((1:Int)).toNat=1 from rfl] at jM)
    replace l2:=eq_true l2
    replace l3:=eq_true l3
    refine start_ (n:=9) (S:=fun w'=>w'.cell? jK=some (.string (rdOf ByteArray.empty ai 0))∧w'.cell? ⟨jK.block,jK.off+1,none⟩=some (.string (rdOf ByteArray.empty ai 1))) (ds:=[]) #[false,false,false,false,false,false,false,false,false] zY2 rfl rfl ⟨jL,jM⟩ (fun hHeld=>?_);refine with_tabW spec_AddrGet.tab8 spec_AddrGet.bits8 (fun HT_ HW_=>?_)
    generalize kw.drew=mK at bz ag HB jL jM hHeld ⊢
    refine pure_ (i:=0) (N:=some 36) (v:=?_) (a':=?_) #[true,false,false,false,false,false,false,false,false] rfl rfl (any_of HT_.out zY2) (fun _ _ _ h=>h) (Or.inl ⟨by rfl,?_⟩) ?_ ?_
    rotate_left
    ·intro w'
     go_simp
     with_reducible rfl
    rotate_left
    ·simp only [Act.put,zL0,zL1,zL2,i64_w,i32_w]
     rfl
    refine pure_ (i:=1) (N:=some 37) (v:=?_) (a':=?_) #[true,true,false,false,false,false,false,false,false] rfl rfl (any_of HT_.out zY2) (fun _ _ _ h=>h) (Or.inl ⟨by rfl,?_⟩) ?_ ?_
    rotate_left
    ·intro w'
     go_simp
     with_reducible rfl
    rotate_left
    ·simp only [Act.put,zL0,zL1,zL2,i64_w,i32_w]
     rfl
    refine pure_ (i:=3) (N:=some 39) (v:=?_) (a':=?_) #[true,true,false,true,false,false,false,false,false] rfl rfl (any_of HT_.out zY2) (fun _ _ _ h=>h) (Or.inl ⟨by rfl,?_⟩) ?_ ?_
    rotate_left
    ·intro w'
     go_simp
     with_reducible rfl
    rotate_left
    ·simp only [Act.put,zL0,zL1,zL2,i64_w,i32_w]
     rfl
    refine pure_ (i:=4) (N:=some 40) (v:=?_) (a':=?_) #[true,true,false,true,true,false,false,false,false] rfl rfl (any_of HT_.out zY2) (fun _ _ _ h=>h) (Or.inl ⟨by rfl,?_⟩) ?_ ?_
    rotate_left
    ·intro w'
     go_simp
     with_reducible rfl
    rotate_left
    ·simp only [Act.put,zL0,zL1,zL2,i64_w,i32_w]
     rfl
    refine take_ (i:=2) (N:=some 38) (v:=?_) (a':=?_) #[true,true,true,true,true,false,false,false,false] rfl rfl (take_ofW HT_.out HW_.out zY2) (fun _ _ _ h=>h) (Or.inl ⟨by rfl,?_⟩) hHeld ?_ ?_
    rotate_left
    ·rintro w' ⟨s0,s1⟩
     go_simp
     with_reducible rfl
    rotate_left
    ·simp only [Act.put,zL0,zL1,zL2,i64_w,i32_w]
     rfl
    refine take_ (i:=5) (N:=some 41) (v:=?_) (a':=?_) #[true,true,true,true,true,true,false,false,false] rfl rfl (take_ofW HT_.out HW_.out zY2) (fun _ _ _ h=>h) (Or.inl ⟨by rfl,?_⟩) hHeld ?_ ?_
    rotate_left
    ·rintro w' ⟨s0,s1⟩
     go_simp
     with_reducible rfl
    rotate_left
    ·simp only [Act.put,zL0,zL1,zL2,i64_w,i32_w]
     rfl
    refine pure_ (i:=6) (N:=some 42) (v:=?_) (a':=?_) #[true,true,true,true,true,true,true,false,false] rfl rfl (any_of HT_.out zY2) (fun _ _ _ h=>h) (Or.inl ⟨by rfl,?_⟩) ?_ ?_
    rotate_left
    ·intro w'
     go_simp
     with_reducible rfl
    rotate_left
    ·simp only [Act.put,zL0,zL1,zL2,i64_w,i32_w]
     rfl
    refine one_ (i:=7) (N:=some 5) #[true,true,true,true,true,true,true,true,false] rfl rfl (one_of HT_.out zY2) zY4 (fun K hK=>?_)
    refine box_step ?hg (N:=5) ?hd (cs:=#[.string bz0,.string bz0]) (t:=24) ?hr ?_;(case hd=>rfl);(case hg=>rfl);(case hr=>first|(go_simp;done)|(go_simp;rfl))
    intro eh hg nx hbox hb
    have HS0_:=(hb.cell (World.block_lt_of_cell? _ _ (hHeld.1))).trans (hHeld.1)
    have HS1_:=(hb.cell (World.block_lt_of_cell? _ _ (hHeld.2))).trans (hHeld.2)
    replace bz:=zA (Kd.z2 (zVR bz.out) hb);have bM:=zA hbox;have El:=zA (zS hg:w.heap.size≤eh);have Em:=zA (zS hg:w.heap.size≤eh);replace HB:=zA (zq0 zB hb);have l4:=zA (zNlt hg (zK ag.out):aV≠eh);have l5:=zA (zNgt hg (zK ag.out):eh≠aV);replace ag:=zA (zq1 (zK ag.out) hb)
    clear hb hbox hg
    refine hK.out _ _ ⟨HS0_,HS1_⟩ (fun hHeld=>?_)
    clear hK K
    refine norm_ (a':=?_) ?_ ?_
    rotate_left
    ·show Act.put _ (some 5) _=_
     simp only [Act.put,zL0,zL1,zL2,i64_w,i32_w]
     rfl
    refine one_ (i:=8) (N:=none) #[true,true,true,true,true,true,true,true,true] rfl rfl (one_of HT_.out zY2) zY4 (fun K hK=>?_)
    have hs40:nx.cell? ⟨eh,0,none⟩=some (.string bz0):=zq3 bM.out 0
    have hfs40:=blk_frozen bM.out 0
    have hns40_0:=l4.out
    have hms40_0:=l5.out
    have hs41:nx.cell? ⟨eh,1,none⟩=some (.string bz0):=zq3 bM.out 1
    have hfs41:=blk_frozen bM.out 1
    have hns41_0:=l4.out
    have hms41_0:=l5.out
    refine skip_ (w1:=?_) zY30 rfl ?_ ?_
    rotate_left
    ·go_simp
     rfl
    refine hK.out _ _ ⟨((zq12 (p:=⟨eh,_,none⟩) (by first|exact Kd.z12 (Kd.R_ne bz.out bM.out zY4)|(rw [zq8];exact Kd.z12 (Kd.R_ne bz.out bM.out zY4))|(show (Addr.add _ _).block≠_;rw [zq8];exact Kd.z12 (Kd.R_ne bz.out bM.out zY4))|(dsimp only;exact Kd.z12 (Kd.R_ne bz.out bM.out zY4))) _).trans (((zq12 (p:=⟨eh,_,none⟩) (by first|exact Kd.z12 (Kd.R_ne bz.out bM.out zY4)|(rw [zq8];exact Kd.z12 (Kd.R_ne bz.out bM.out zY4))|(show (Addr.add _ _).block≠_;rw [zq8];exact Kd.z12 (Kd.R_ne bz.out bM.out zY4))|(dsimp only;exact Kd.z12 (Kd.R_ne bz.out bM.out zY4))) _).trans (hHeld.1)))),((zq12 (p:=⟨eh,_,none⟩) (by first|exact Kd.z12 (Kd.R_ne bz.out bM.out zY4)|(rw [zq8];exact Kd.z12 (Kd.R_ne bz.out bM.out zY4))|(show (Addr.add _ _).block≠_;rw [zq8];exact Kd.z12 (Kd.R_ne bz.out bM.out zY4))|(dsimp only;exact Kd.z12 (Kd.R_ne bz.out bM.out zY4))) _).trans (((zq12 (p:=⟨eh,_,none⟩) (by first|exact Kd.z12 (Kd.R_ne bz.out bM.out zY4)|(rw [zq8];exact Kd.z12 (Kd.R_ne bz.out bM.out zY4))|(show (Addr.add _ _).block≠_;rw [zq8];exact Kd.z12 (Kd.R_ne bz.out bM.out zY4))|(dsimp only;exact Kd.z12 (Kd.R_ne bz.out bM.out zY4))) _).trans (hHeld.2))))⟩ (fun hHeld=>?_)
    clear hK K
    refine done_ (done_of HT_.out zY2) ?_
    have yE:=l5.out
    have yF:=l4.out
    obtain ⟨_,_⟩:=zc2 bM.out
    obtain ⟨_,_⟩:=zf2 bM.out
    try go_wp2_with (first|((with_reducible refine zq2 (f:=59) rfl ?_);refine zq4 (some 44) rfl rfl Tryz.func59 zY2 rfl #[.agg #[.string (rdOf ByteArray.empty ai 0),.string (rdOf ByteArray.empty ai 1)]] rfl zY0 ?_;(with_reducible refine (spec_l1AddrOk.calls kj4 (rdOf ByteArray.empty ai 0) (rdOf ByteArray.empty ai 1) false _ kH.out).mono ?_);rintro e uq ⟨rfl,hb⟩;refine ⟨_,rfl,?_⟩;replace bz:=zA (Kd.z2 (by exact zr (Kd.z7 (zR2 eh (Kd.z10 bz.out bM.out zY4) (.string (rdOf ByteArray.empty ai 0)) (.string (rdOf ByteArray.empty ai 1))) (fun _ h_=>h_.1))) hb);replace ag:=zA (zq1 (g:=aV) (o:=.cells #[.string bz0,.string bz0] 24 (0,0)) (zG ag.out) hb);replace bM:=zA (zq1 (g:=eh) (o:=.cells #[.string (rdOf ByteArray.empty ai 0),.string (rdOf ByteArray.empty ai 1)] 24 (0,0)) (zG bM.out) hb);replace HB:=zA (zq0 zB hb);clear hb;obtain ⟨_,_⟩:=zc2 ag.out;obtain ⟨_,_⟩:=zf2 ag.out))
    refine bodyPost_ret (zq13 rfl _ _ aV 24 #[.string bz0,.string bz0] (0,0) _ rfl (zG ag.out) Tryz.underlying24 rfl zY2) rfl ?_
    exact ⟨zT,zB⟩
   subst gi
   rw [if_pos rfl] at H
   simp only [Option.some.injEq,Prod.mk.injEq] at H
   obtain ⟨rfl,rfl,rfl⟩:=H
   try go_wp2_with (first|((with_reducible refine zq2 (f:=78) rfl ?_);refine zq4 (some 31) rfl rfl Tryz.func78 zY2 rfl #[.string (a0.extract 1 ((wrap64 ((a0.size:Int) - 1)):Int).toNat),.int .u8 64,.int .i64 2] rfl zY0 ?_;(with_reducible refine (spec_l1Cut.calls kj4 (a0.extract 1 ((wrap64 ((a0.size:Int) - 1)):Int).toNat) 64 2 ai _ dE.out).mono ?_);rintro e jA ⟨ob,rfl,ar,hb⟩;refine ⟨_,rfl,?_⟩;have bz:=zA (Kd.z6 ar (zq7 zB));replace ag:=zA (zq1 (zK ag.out) hb);replace HB:=zA (zq0 zB hb);clear hb ar;obtain ⟨En,Eo,uD⟩:=Kd.z9 bz.out;subst uD))
   replace bz:=zA (Kd.z3 bz.out);replace ag:=zA (blk_drew ag.out);replace HB:=zA (below_drew1 HB.out)
   have lY:0≤(0:Int):=zY6
   have lZ:0 < (ai.length:Int):=of_decide_eq_true zY1
   obtain ⟨jK,uA,jL⟩:=Kd.z11 (Kd.z8 bz.out).2.2 0 lY lZ
   cases uA
   have qi161:(0 < ai.length)=True:=eq_true zY6
   (try rw [show ((0:Int)).toNat=0 from rfl] at jL)
   (try rw [Addr.add_zero'] at jL)
   replace lY:=eq_true lY
   replace lZ:=eq_true lZ
   have l2:0≤(1:Int):=zY6
   have l3:1 < (ai.length:Int):=of_decide_eq_true zY1
   obtain ⟨uB,uC,jM⟩:=Kd.z11 (Kd.z8 bz.out).2.2 1 l2 l3
   obtain rfl:jK=uB:=(by injection uC)
   (try simp only [show (1:Int).toNat=1 from rfl,Nat.reduceMul,Nat.reduceEqDiff,Go.Addr.add,↓reduceIte] at jM)
   have qi162:(1 < ai.length)=True:=eq_true zY6
   (try rw [show ((1:Int)).toNat=1 from rfl] at jM)
   replace l2:=eq_true l2
   replace l3:=eq_true l3
   refine start_ (n:=9) (S:=fun w'=>w'.cell? jK=some (.string (rdOf ByteArray.empty ai 0))∧w'.cell? ⟨jK.block,jK.off+1,none⟩=some (.string (rdOf ByteArray.empty ai 1))) (ds:=[]) #[false,false,false,false,false,false,false,false,false] zY2 rfl rfl ⟨jL,jM⟩ (fun hHeld=>?_);refine with_tabW spec_AddrGet.tab8 spec_AddrGet.bits8 (fun HT_ HW_=>?_)
   generalize jA.drew=eG at bz ag HB jL jM hHeld ⊢
   refine pure_ (i:=0) (N:=some 36) (v:=?_) (a':=?_) #[true,false,false,false,false,false,false,false,false] rfl rfl (any_of HT_.out zY2) (fun _ _ _ h=>h) (Or.inl ⟨by rfl,?_⟩) ?_ ?_
   rotate_left
   ·intro w'
    go_simp
    with_reducible rfl
   rotate_left
   ·simp only [Act.put,zL0,zL1,zL2,i64_w,i32_w]
    rfl
   refine pure_ (i:=1) (N:=some 37) (v:=?_) (a':=?_) #[true,true,false,false,false,false,false,false,false] rfl rfl (any_of HT_.out zY2) (fun _ _ _ h=>h) (Or.inl ⟨by rfl,?_⟩) ?_ ?_
   rotate_left
   ·intro w'
    go_simp
    with_reducible rfl
   rotate_left
   ·simp only [Act.put,zL0,zL1,zL2,i64_w,i32_w]
    rfl
   refine pure_ (i:=3) (N:=some 39) (v:=?_) (a':=?_) #[true,true,false,true,false,false,false,false,false] rfl rfl (any_of HT_.out zY2) (fun _ _ _ h=>h) (Or.inl ⟨by rfl,?_⟩) ?_ ?_
   rotate_left
   ·intro w'
    go_simp
    with_reducible rfl
   rotate_left
   ·simp only [Act.put,zL0,zL1,zL2,i64_w,i32_w]
    rfl
   refine pure_ (i:=4) (N:=some 40) (v:=?_) (a':=?_) #[true,true,false,true,true,false,false,false,false] rfl rfl (any_of HT_.out zY2) (fun _ _ _ h=>h) (Or.inl ⟨by rfl,?_⟩) ?_ ?_
   rotate_left
   ·intro w'
    go_simp
    with_reducible rfl
   rotate_left
   ·simp only [Act.put,zL0,zL1,zL2,i64_w,i32_w]
    rfl
   refine take_ (i:=2) (N:=some 38) (v:=?_) (a':=?_) #[true,true,true,true,true,false,false,false,false] rfl rfl (take_ofW HT_.out HW_.out zY2) (fun _ _ _ h=>h) (Or.inl ⟨by rfl,?_⟩) hHeld ?_ ?_
   rotate_left
   ·rintro w' ⟨s0,s1⟩
    go_simp
    with_reducible rfl
   rotate_left
   ·simp only [Act.put,zL0,zL1,zL2,i64_w,i32_w]
    rfl
   refine take_ (i:=5) (N:=some 41) (v:=?_) (a':=?_) #[true,true,true,true,true,true,false,false,false] rfl rfl (take_ofW HT_.out HW_.out zY2) (fun _ _ _ h=>h) (Or.inl ⟨by rfl,?_⟩) hHeld ?_ ?_
   rotate_left
   ·rintro w' ⟨s0,s1⟩
    go_simp
    with_reducible rfl
   rotate_left
   ·simp only [Act.put,zL0,zL1,zL2,i64_w,i32_w]
    rfl
   refine pure_ (i:=6) (N:=some 42) (v:=?_) (a':=?_) #[true,true,true,true,true,true,true,false,false] rfl rfl (any_of HT_.out zY2) (fun _ _ _ h=>h) (Or.inl ⟨by rfl,?_⟩) ?_ ?_
   rotate_left
   ·intro w'
    go_simp
    with_reducible rfl
   rotate_left
   ·simp only [Act.put,zL0,zL1,zL2,i64_w,i32_w]
    rfl
   refine one_ (i:=7) (N:=some 5) #[true,true,true,true,true,true,true,true,false] rfl rfl (one_of HT_.out zY2) zY4 (fun K hK=>?_)
   refine box_step ?hg (N:=5) ?hd (cs:=#[.string bz0,.string bz0]) (t:=24) ?hr ?_;(case hd=>rfl);(case hg=>rfl);(case hr=>first|(go_simp;done)|(go_simp;rfl))
   intro eh hg gb hbox hb
   have HS0_:=(hb.cell (World.block_lt_of_cell? _ _ (hHeld.1))).trans (hHeld.1)
   have HS1_:=(hb.cell (World.block_lt_of_cell? _ _ (hHeld.2))).trans (hHeld.2)
   replace bz:=zA (Kd.z2 (zVR bz.out) hb);have bM:=zA hbox;have El:=zA (zS hg:w.heap.size≤eh);have Em:=zA (zS hg:w.heap.size≤eh);replace HB:=zA (zq0 zB hb);have l4:=zA (zNlt hg (zK ag.out):aV≠eh);have l5:=zA (zNgt hg (zK ag.out):eh≠aV);replace ag:=zA (zq1 (zK ag.out) hb)
   clear hb hbox hg
   refine hK.out _ _ ⟨HS0_,HS1_⟩ (fun hHeld=>?_)
   clear hK K
   refine norm_ (a':=?_) ?_ ?_
   rotate_left
   ·show Act.put _ (some 5) _=_
    simp only [Act.put,zL0,zL1,zL2,i64_w,i32_w]
    rfl
   refine one_ (i:=8) (N:=none) #[true,true,true,true,true,true,true,true,true] rfl rfl (one_of HT_.out zY2) zY4 (fun K hK=>?_)
   have hs29:gb.cell? ⟨eh,0,none⟩=some (.string bz0):=zq3 bM.out 0
   have hfs29:=blk_frozen bM.out 0
   have hns29_0:=l4.out
   have hms29_0:=l5.out
   have hs30:gb.cell? ⟨eh,1,none⟩=some (.string bz0):=zq3 bM.out 1
   have hfs30:=blk_frozen bM.out 1
   have hns30_0:=l4.out
   have hms30_0:=l5.out
   refine skip_ (w1:=?_) zY30 rfl ?_ ?_
   rotate_left
   ·go_simp
    rfl
   refine hK.out _ _ ⟨((zq12 (p:=⟨eh,_,none⟩) (by first|exact Kd.z12 (Kd.R_ne bz.out bM.out zY4)|(rw [zq8];exact Kd.z12 (Kd.R_ne bz.out bM.out zY4))|(show (Addr.add _ _).block≠_;rw [zq8];exact Kd.z12 (Kd.R_ne bz.out bM.out zY4))|(dsimp only;exact Kd.z12 (Kd.R_ne bz.out bM.out zY4))) _).trans (((zq12 (p:=⟨eh,_,none⟩) (by first|exact Kd.z12 (Kd.R_ne bz.out bM.out zY4)|(rw [zq8];exact Kd.z12 (Kd.R_ne bz.out bM.out zY4))|(show (Addr.add _ _).block≠_;rw [zq8];exact Kd.z12 (Kd.R_ne bz.out bM.out zY4))|(dsimp only;exact Kd.z12 (Kd.R_ne bz.out bM.out zY4))) _).trans (hHeld.1)))),((zq12 (p:=⟨eh,_,none⟩) (by first|exact Kd.z12 (Kd.R_ne bz.out bM.out zY4)|(rw [zq8];exact Kd.z12 (Kd.R_ne bz.out bM.out zY4))|(show (Addr.add _ _).block≠_;rw [zq8];exact Kd.z12 (Kd.R_ne bz.out bM.out zY4))|(dsimp only;exact Kd.z12 (Kd.R_ne bz.out bM.out zY4))) _).trans (((zq12 (p:=⟨eh,_,none⟩) (by first|exact Kd.z12 (Kd.R_ne bz.out bM.out zY4)|(rw [zq8];exact Kd.z12 (Kd.R_ne bz.out bM.out zY4))|(show (Addr.add _ _).block≠_;rw [zq8];exact Kd.z12 (Kd.R_ne bz.out bM.out zY4))|(dsimp only;exact Kd.z12 (Kd.R_ne bz.out bM.out zY4))) _).trans (hHeld.2))))⟩ (fun hHeld=>?_)
   clear hK K
   refine done_ (done_of HT_.out zY2) ?_
   have Ep:=l5.out
   have Er:=l4.out
   obtain ⟨_,_⟩:=zc2 bM.out
   obtain ⟨_,_⟩:=zf2 bM.out
   try go_wp2_with (first|((with_reducible refine zq2 (f:=59) rfl ?_);refine zq4 (some 44) rfl rfl Tryz.func59 zY2 rfl #[.agg #[.string (rdOf ByteArray.empty ai 0),.string (rdOf ByteArray.empty ai 1)]] rfl zY0 ?_;(with_reducible refine (spec_l1AddrOk.calls kj4 (rdOf ByteArray.empty ai 0) (rdOf ByteArray.empty ai 1) true _ kH.out).mono ?_);rintro e eR ⟨rfl,hb⟩;refine ⟨_,rfl,?_⟩;replace bz:=zA (Kd.z2 (by exact zr (Kd.z7 (zR2 eh (Kd.z10 bz.out bM.out zY4) (.string (rdOf ByteArray.empty ai 0)) (.string (rdOf ByteArray.empty ai 1))) (fun _ h_=>h_.1))) hb);replace ag:=zA (zq1 (g:=aV) (o:=.cells #[.string bz0,.string bz0] 24 (0,0)) (zG ag.out) hb);replace bM:=zA (zq1 (g:=eh) (o:=.cells #[.string (rdOf ByteArray.empty ai 0),.string (rdOf ByteArray.empty ai 1)] 24 (0,0)) (zG bM.out) hb);replace HB:=zA (zq0 zB hb);clear hb;obtain ⟨_,_⟩:=zc2 bM.out;obtain ⟨_,_⟩:=zf2 bM.out;obtain ⟨_,_⟩:=zc2 ag.out;obtain ⟨_,_⟩:=zf2 ag.out))
   refine bodyPost_ret (zq13 rfl _ _ aV 24 #[.string (rdOf ByteArray.empty ai 0),.string (rdOf ByteArray.empty ai 1)] (0,0) _ rfl (zG ag.out) Tryz.underlying24 rfl zY2) rfl ?_
   exact ⟨zT,zB⟩
end Go.Proofs.YtjdpdkdhfnpcgaaGreatDoor.Q
