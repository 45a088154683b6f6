/- Of a text of ours what this claim needs. -/
import Derived.Test.YtjdpdkdhfnpcgaaGreatDoorZzFnExactNoteGetSQ0
import Derived.Test.YtjdpdkdhfnpcgaaGreatDoorZzFnExactNoteGetSAu
import Derived.Test.YtjdpdkdhfnpcgaaGreatDoorZzFnExactNoteGetSQ3
namespace Go.Proofs.YtjdpdkdhfnpcgaaGreatDoor.Q
open Go.RowKit Go.Proofs.YtjdpdkdhfnpcgaaGreatDoorW.PrintWords Go.Proofs.YtjdpdkdhfnpcgaaGreatDoorW.PrintLast Go.Proofs.YtjdpdkdhfnpcgaaGreatDoorW.PrintMore
attribute [local go_sem] max2_int min2_int max_two min_two max_three min_three max_four min_four
set_option linter.unusedVariables false
set_option linter.unusedSimpArgs false
def spec_l1Dec.f:Nat→Int→Option (ByteArray)
 | 0,_=>none
 | k+1,a0=>if a0 < (-9223372036854775807) then (some (⟨#[45,57,50,50,51,51,55,50,48,51,54,56,53,52,55,55,53,56,48,56]⟩:ByteArray)) else (if a0 < 0 then ((spec_l1Dec.f k (wrap64 (-a0))).bind fun bP=>(if 1+bP.size≤9223372036854775807 then (some ((⟨#[45]⟩:ByteArray)++bP)) else (none))) else (if a0 < 10 then (some (strOfNums (([(wrap64 (48+a0)) % 256]:List Int)))) else ((spec_l1Dec.f k (wrap64 (Int.tdiv a0 10))).bind fun bO=>((some (([(wrap64 (48+(Int.tmod a0 10))) % 256]:List Int):List Int)).bind fun gZ=>(if bO.size+(strOfNums gZ).size≤9223372036854775807 then (some (bO++(strOfNums gZ))) else (none))))))
def spec_l1Dec.T7:Bool × List (List Nat × List Nat):=(true,[([],[]),([0],[0]),([1],[1]),([],[]),([3],[3]),([4],[4]),([5],[5]),([6],[6]),([7],[7]),([2,8],[2,8]),([9,2,0,1,2,3,4,5,6,7,8,9],[9])])
def spec_l1Dec.B7:List Nat:=[0,1,3,0,8,24,56,120,248,511,1023]
theorem spec_l1Dec.tab7:rtab .any (opsOf Tryz.f60 7)=spec_l1Dec.T7:=by kernel_rfl
theorem spec_l1Dec.bits7:waitsOk spec_l1Dec.T7.2 spec_l1Dec.B7=true:=by kernel_rfl
set_option maxHeartbeats 8000000 in
set_option maxRecDepth 100000 in
theorem spec_l1Dec.calls (k:Nat):∀ (a0:Int) (r:ByteArray) (w:World) (h:spec_l1Dec.f k a0=some r),
 Calls Tryz.prog 60 #[.int .i64 a0] w fun e w'=>e=.returned (.string r)∧Below w.heap.size w w':=by
 induction k using Nat.strongRecOn with
 | _ k ih =>
 intro a0 r w h
 cases k with
 | zero=>exact absurd h (by simp [spec_l1Dec.f])
 | succ k =>
 simp only [spec_l1Dec.f] at h
 have HB:=zA (Below.refl w.heap.size w)
 have H:(if a0 < (-9223372036854775807) then (some (⟨#[45,57,50,50,51,51,55,50,48,51,54,56,53,52,55,55,53,56,48,56]⟩:ByteArray)) else (if a0 < 0 then ((spec_l1Dec.f k (wrap64 (-a0))).bind fun bP=>(if 1+bP.size≤9223372036854775807 then (some ((⟨#[45]⟩:ByteArray)++bP)) else (none))) else (if a0 < 10 then (some (strOfNums (([(wrap64 (48+a0)) % 256]:List Int)))) else ((spec_l1Dec.f k (wrap64 (Int.tdiv a0 10))).bind fun bO=>((some (([(wrap64 (48+(Int.tmod a0 10))) % 256]:List Int):List Int)).bind fun gZ=>(if bO.size+(strOfNums gZ).size≤9223372036854775807 then (some (bO++(strOfNums gZ))) else (none)))))))=some r:=h
 clear h
 by_cases c2:a0 < (-9223372036854775807)
 ·rw [if_pos c2] at H
  have c2b0:decide (a0 < (-9223372036854775807))=true:=decide_eq_true c2
  clear c2
  obtain rfl:=Option.some.inj H
  go_enter Tryz.func60,Tryz.ntmps60
  go_wp2
  go_ret
  exact ⟨zT,zB⟩
 rw [if_neg c2] at H
 have c2b0:decide (a0 < (-9223372036854775807))=false:=decide_eq_false c2
 clear c2
 by_cases c3:a0 < 0
 ·rw [if_pos c3] at H
  have c3b0:decide (a0 < 0)=true:=decide_eq_true c3
  clear c3
  replace H:=Option.bind_eq_some_iff.mp H
  obtain ⟨bP,ci,H⟩:=H
  try dsimp only at H
  have A4:=zA ci
  clear ci
  obtain ⟨c5,H⟩:=zp H
  have c5b0:=eq_true c5
  have c5b1:decide (1+bP.size≤9223372036854775807)=true:=decide_eq_true c5
  try have c5b2:(9223372036854775807 < 1+bP.size)=False:=eq_false (Nat.not_lt.2 c5)
  obtain rfl:=Option.some.inj H
  go_enter Tryz.func60,Tryz.ntmps60
  go_wp2_with (first|((with_reducible refine zq2 (f:=60) rfl ?_);refine zq4 (some 9) rfl rfl Tryz.func60 zY2 rfl #[.int .i64 (wrap64 (-a0))] rfl zY0 ?_;(with_reducible refine (ih k zY6 (wrap64 (-a0)) bP _ A4.out).mono ?_);rintro e w6 ⟨rfl,hb⟩;refine ⟨_,rfl,?_⟩;replace HB:=zA (zq0 zB hb);clear hb))
  go_ret
  exact ⟨zT,zB⟩
 rw [if_neg c3] at H
 have c3b0:decide (a0 < 0)=false:=decide_eq_false c3
 clear c3
 by_cases c7:a0 < 10
 ·rw [if_pos c7] at H
  have c7b0:decide (a0 < 10)=true:=decide_eq_true c7
  clear c7
  obtain ⟨DV,us⟩:∃ y_:List Int,y_=(([(wrap64 (48+a0)) % 256]:List Int)):=⟨_,rfl⟩
  replace H:(some (strOfNums DV))=some r:=zX us H
  have y2:=zA us
  clear us
  obtain rfl:=Option.some.inj H
  go_enter Tryz.func60,Tryz.ntmps60
  go_wp2_with (first|((with_reducible refine zq5 (N:=16) rfl ?_);refine Kd.R_lit (Kd.int .u8) _ 5 ?hg (N:=16) ?hd (xs:=([(wrap64 (48+a0)) % 256]:List Int)) (inner:=[.int .u8 ((wrap64 (48+a0)) % 256)]) (ok:=fun _=>True) (okp:=fun _=>True) ?hr ?hp (fun _ hk=>hk) trivial (Below.refl _ _) (Nat.le_refl _) (by simp) ?_;(case hd=>rfl);(case hg=>rfl);(case hr=>first|(go_simp;done)|(go_simp;rfl));(case hp=>exact (Reps.one (show Kd.M (Kd.int .u8) _ _ _ ((wrap64 (48+a0)) % 256) [.int .u8 ((wrap64 (48+a0)) % 256)] from rfl) (Reps.none _ _)));intro Mz w8 nW hb hg_ hnew_;clear hg_ hnew_;(first|rw [← y2.out] at nW|(simp only [Int.reduceToNat] at nW;rw [← y2.out] at nW));have DW:=zA (Kd.z6 nW (zq7 zB));replace HB:=zA (zq0 zB hb);clear hb nW;have hcv10:=own_string (P:=Tryz.prog) Tryz.underlying22 Tryz.underlying5 Tryz.underlying9 (Kd.own_of_R DW.out)))
  go_ret
  exact ⟨zT,zB⟩
 rw [if_neg c7] at H
 have c7b0:decide (a0 < 10)=false:=decide_eq_false c7
 clear c7
 replace H:=Option.bind_eq_some_iff.mp H
 obtain ⟨bO,kJ,H⟩:=H
 try dsimp only at H
 have lL:=zA kJ
 clear kJ
 obtain ⟨gZ,ut⟩:∃ y_:List Int,y_=(([(wrap64 (48+(Int.tmod a0 10))) % 256]:List Int)):=⟨_,rfl⟩
 replace H:(if bO.size+(strOfNums gZ).size≤9223372036854775807 then (some (bO++(strOfNums gZ))) else (none))=some r:=zX ut H
 have qp:=zA ut
 clear ut
 obtain ⟨bH,H⟩:=zp H
 have c12b0:=eq_true bH
 have c12b1:decide (bO.size+(strOfNums gZ).size≤9223372036854775807)=true:=decide_eq_true bH
 try have c12b2:(9223372036854775807 < bO.size+(strOfNums gZ).size)=False:=eq_false (Nat.not_lt.2 bH)
 obtain rfl:=Option.some.inj H
 go_enter Tryz.func60,Tryz.ntmps60
 try go_wp2
 replace HB:=zA (below_drew1 HB.out)
 refine start_ (n:=11) (S:=fun w'=>True) (ds:=[]) #[false,false,false,false,false,false,false,false,false,false,false] zY2 rfl rfl trivial (fun hHeld=>?_);refine with_tabW spec_l1Dec.tab7 spec_l1Dec.bits7 (fun HT_ HW_=>?_)
 generalize w.drew=g0 at HB hHeld ⊢
 refine pure_ (i:=0) (N:=some 18) (v:=?_) (a':=?_) #[true,false,false,false,false,false,false,false,false,false,false] rfl rfl (any_of HT_.out zY2) (fun _ _ _ h=>h) (Or.inl ⟨by rfl,?_⟩) ?_ ?_
 rotate_left
 ·intro w'
  go_simp
  with_reducible rfl
 rotate_left
 ·simp only [Act.put,zL0,zL1,zL2,i64_w,i32_w]
  rfl
 refine pure_ (i:=1) (N:=some 19) (v:=?_) (a':=?_) #[true,true,false,false,false,false,false,false,false,false,false] rfl rfl (any_of HT_.out zY2) (fun _ _ _ h=>h) (Or.inl ⟨by rfl,?_⟩) ?_ ?_
 rotate_left
 ·intro w'
  go_simp
  with_reducible rfl
 rotate_left
 ·simp only [Act.put,zL0,zL1,zL2,i64_w,i32_w]
  rfl
 refine pure_ (i:=3) (N:=some 21) (v:=?_) (a':=?_) #[true,true,false,true,false,false,false,false,false,false,false] rfl rfl (any_of HT_.out zY2) (fun _ _ _ h=>h) (Or.inl ⟨by rfl,?_⟩) ?_ ?_
 rotate_left
 ·intro w'
  go_simp
  with_reducible rfl
 rotate_left
 ·simp only [Act.put,zL0,zL1,zL2,i64_w,i32_w]
  rfl
 refine pure_ (i:=4) (N:=some 22) (v:=?_) (a':=?_) #[true,true,false,true,true,false,false,false,false,false,false] rfl rfl (any_of HT_.out zY2) (fun _ _ _ h=>h) (Or.inl ⟨by rfl,?_⟩) ?_ ?_
 rotate_left
 ·intro w'
  go_simp
  with_reducible rfl
 rotate_left
 ·simp only [Act.put,zL0,zL1,zL2,i64_w,i32_w]
  rfl
 refine pure_ (i:=5) (N:=some 23) (v:=?_) (a':=?_) #[true,true,false,true,true,true,false,false,false,false,false] rfl rfl (any_of HT_.out zY2) (fun _ _ _ h=>h) (Or.inl ⟨by rfl,?_⟩) ?_ ?_
 rotate_left
 ·intro w'
  go_simp
  with_reducible rfl
 rotate_left
 ·simp only [Act.put,zL0,zL1,zL2,i64_w,i32_w]
  rfl
 refine pure_ (i:=6) (N:=some 24) (v:=?_) (a':=?_) #[true,true,false,true,true,true,true,false,false,false,false] rfl rfl (any_of HT_.out zY2) (fun _ _ _ h=>h) (Or.inl ⟨by rfl,?_⟩) ?_ ?_
 rotate_left
 ·intro w'
  go_simp
  with_reducible rfl
 rotate_left
 ·simp only [Act.put,zL0,zL1,zL2,i64_w,i32_w]
  rfl
 refine join_ (σ:=Value) 2 #[true,true,true,true,true,true,true,true,true,false,false] (fun s_=>[(20,.string bO),(25,s_),(26,.string (strOfNums gZ))]) (fun s_ w'=>(Kd.R (Kd.int .u8) 5 w' w.heap.size (fun _=>True) s_ gZ)∧(Below w.heap.size w w')) ?_ ?_
 rotate_left
 ·intro hCont
  refine two_ (i:=2) (j:=7) (Ni:=some 20) (Nj:=some 25) #[true,true,true,true,true,true,true,false,false,false,false] #[true,true,false,true,true,true,true,true,false,false,false] rfl rfl rfl rfl (two_of HT_.out zY2) zY4 zY4 (fun K hK=>?_) (fun K hK=>?_)
  ·skip
   refine goes_ Tryz.func60 zY2 rfl #[.int .i64 (wrap64 (Int.tdiv a0 10))] zY30 rfl rfl zY0 ?_
   with_reducible refine (ih k zY6 (wrap64 (Int.tdiv a0 10)) bO _ lL.out).mono ?_
   rintro e jy ⟨rfl,hb⟩
   refine ⟨_,rfl,?_⟩
   replace HB:=zA (zq0 zB hb)
   (try clear hb)
   (try clear hk)
   refine hK.out _ _ trivial (fun hHeld=>?_)
   clear hK K
   refine norm_ (a':=?_) ?_ ?_
   rotate_left
   ·show Act.put _ (some 20) _=_
    simp only [Act.put,zL0,zL1,zL2,i64_w,i32_w]
    rfl
   refine one_ (i:=7) (N:=some 25) #[true,true,true,true,true,true,true,true,false,false,false] rfl rfl (one_of HT_.out zY2) zY4 (fun K hK=>?_)
   refine Kd.R_lit_step (Kd.int .u8) _ 5 ?hg (N:=25) ?hd (xs:=([(wrap64 (48+(Int.tmod a0 10))) % 256]:List Int)) (inner:=[.int .u8 ((wrap64 (48+(Int.tmod a0 10))) % 256)]) (ok:=fun _=>True) (okp:=fun _=>True) ?hr ?hp (fun _ hk=>hk) trivial (Below.refl _ _) (Nat.le_refl _) (by simp) ?_;(case hd=>rfl);(case hg=>rfl);(case hr=>first|(go_simp;done)|(go_simp;rfl));(case hp=>exact (Reps.one (show Kd.M (Kd.int .u8) _ _ _ ((wrap64 (48+(Int.tmod a0 10))) % 256) [.int .u8 ((wrap64 (48+(Int.tmod a0 10))) % 256)] from rfl) (Reps.none _ _)))
   intro mL ic nX hb hg_ hnew_
   clear hg_ hnew_
   (first|rw [← qp.out] at nX|(simp only [Int.reduceToNat] at nX;rw [← qp.out] at nX))
   have hD:=zA (Kd.z6 nX (zq7 zB));replace HB:=zA (zq0 zB hb)
   clear hb nX
   refine hK.out _ _ trivial (fun hHeld=>?_)
   clear hK K
   refine norm_ (a':=?_) ?_ ?_
   rotate_left
   ·show Act.put _ (some 25) _=_
    simp only [Act.put,zL0,zL1,zL2,i64_w,i32_w]
    rfl
   refine one_ (i:=8) (N:=some 26) #[true,true,true,true,true,true,true,true,true,false,false] rfl rfl (one_of HT_.out zY2) zY4 (fun K hK=>?_)
   have hcv17:=own_string (P:=Tryz.prog) Tryz.underlying22 Tryz.underlying5 Tryz.underlying9 (Kd.own_of_R hD.out)
   refine value_ (w1:=?_) (v:=?_) zY30 rfl ?_ ?_
   rotate_left 2
   ·go_simp
    constructor
    ·rfl
    ·rfl
   clear hcv17
   refine hK.out _ _ trivial (fun hHeld=>?_)
   clear hK K
   refine norm_ (a':=?_) ?_ ?_
   rotate_left
   ·show Act.put _ (some 26) _=_
    simp only [Act.put,zL0,zL1,zL2,i64_w,i32_w]
    rfl
   exact norm_ (by simp only [putAll,Act.put,zL0,zL1,zL2]) (hCont (mL) _ ⟨(zVR hD.out),zB⟩)
  ·skip
   refine Kd.R_lit_step (Kd.int .u8) _ 5 ?hg (N:=25) ?hd (xs:=([(wrap64 (48+(Int.tmod a0 10))) % 256]:List Int)) (inner:=[.int .u8 ((wrap64 (48+(Int.tmod a0 10))) % 256)]) (ok:=fun _=>True) (okp:=fun _=>True) ?hr ?hp (fun _ hk=>hk) trivial (Below.refl _ _) (Nat.le_refl _) (by simp) ?_;(case hd=>rfl);(case hg=>rfl);(case hr=>first|(go_simp;done)|(go_simp;rfl));(case hp=>exact (Reps.one (show Kd.M (Kd.int .u8) _ _ _ ((wrap64 (48+(Int.tmod a0 10))) % 256) [.int .u8 ((wrap64 (48+(Int.tmod a0 10))) % 256)] from rfl) (Reps.none _ _)))
   intro mL jy nY hb hg_ hnew_
   clear hg_ hnew_
   (first|rw [← qp.out] at nY|(simp only [Int.reduceToNat] at nY;rw [← qp.out] at nY))
   have hD:=zA (Kd.z6 nY (zq7 zB));replace HB:=zA (zq0 zB hb)
   clear hb nY
   refine hK.out _ _ trivial (fun hHeld=>?_)
   clear hK K
   refine norm_ (a':=?_) ?_ ?_
   rotate_left
   ·show Act.put _ (some 25) _=_
    simp only [Act.put,zL0,zL1,zL2,i64_w,i32_w]
    rfl
   refine two_ (i:=2) (j:=8) (Ni:=some 20) (Nj:=some 26) #[true,true,true,true,true,true,true,true,false,false,false] #[true,true,false,true,true,true,true,true,true,false,false] rfl rfl rfl rfl (two_of HT_.out zY2) zY4 zY4 (fun K hK=>?_) (fun K hK=>?_)
   ·skip
    refine goes_ Tryz.func60 zY2 rfl #[.int .i64 (wrap64 (Int.tdiv a0 10))] zY30 rfl rfl zY0 ?_
    with_reducible refine (ih k zY6 (wrap64 (Int.tdiv a0 10)) bO _ lL.out).mono ?_
    rintro e nq ⟨rfl,hb⟩
    refine ⟨_,rfl,?_⟩
    replace hD:=zA (Kd.z2 (zVR hD.out) hb);replace HB:=zA (zq0 zB hb)
    (try clear hb)
    (try clear hk)
    refine hK.out _ _ trivial (fun hHeld=>?_)
    clear hK K
    refine norm_ (a':=?_) ?_ ?_
    rotate_left
    ·show Act.put _ (some 20) _=_
     simp only [Act.put,zL0,zL1,zL2,i64_w,i32_w]
     rfl
    refine one_ (i:=8) (N:=some 26) #[true,true,true,true,true,true,true,true,true,false,false] rfl rfl (one_of HT_.out zY2) zY4 (fun K hK=>?_)
    have hcv17:=own_string (P:=Tryz.prog) Tryz.underlying22 Tryz.underlying5 Tryz.underlying9 (Kd.own_of_R hD.out)
    refine value_ (w1:=?_) (v:=?_) zY30 rfl ?_ ?_
    rotate_left 2
    ·go_simp
     constructor
     ·rfl
     ·rfl
    clear hcv17
    refine hK.out _ _ trivial (fun hHeld=>?_)
    clear hK K
    refine norm_ (a':=?_) ?_ ?_
    rotate_left
    ·show Act.put _ (some 26) _=_
     simp only [Act.put,zL0,zL1,zL2,i64_w,i32_w]
     rfl
    exact norm_ (by simp only [putAll,Act.put,zL0,zL1,zL2]) (hCont (mL) _ ⟨(zVR hD.out),zB⟩)
   ·skip
    have hcv16:=own_string (P:=Tryz.prog) Tryz.underlying22 Tryz.underlying5 Tryz.underlying9 (Kd.own_of_R hD.out)
    refine value_ (w1:=?_) (v:=?_) zY30 rfl ?_ ?_
    rotate_left 2
    ·go_simp
     constructor
     ·rfl
     ·rfl
    clear hcv16
    refine hK.out _ _ trivial (fun hHeld=>?_)
    clear hK K
    refine norm_ (a':=?_) ?_ ?_
    rotate_left
    ·show Act.put _ (some 26) _=_
     simp only [Act.put,zL0,zL1,zL2,i64_w,i32_w]
     rfl
    refine one_ (i:=2) (N:=some 20) #[true,true,true,true,true,true,true,true,true,false,false] rfl rfl (one_of HT_.out zY2) zY4 (fun K hK=>?_)
    refine goes_ Tryz.func60 zY2 rfl #[.int .i64 (wrap64 (Int.tdiv a0 10))] zY30 rfl rfl zY0 ?_
    with_reducible refine (ih k zY6 (wrap64 (Int.tdiv a0 10)) bO _ lL.out).mono ?_
    rintro e jz ⟨rfl,hb⟩
    refine ⟨_,rfl,?_⟩
    replace hD:=zA (Kd.z2 (zVR hD.out) hb);replace HB:=zA (zq0 zB hb)
    (try clear hb)
    (try clear hk)
    refine hK.out _ _ trivial (fun hHeld=>?_)
    clear hK K
    refine norm_ (a':=?_) ?_ ?_
    rotate_left
    ·show Act.put _ (some 20) _=_
     simp only [Act.put,zL0,zL1,zL2,i64_w,i32_w]
     rfl
    exact norm_ (by simp only [putAll,Act.put,zL0,zL1,zL2]) (hCont (mL) _ ⟨(zVR hD.out),zB⟩)
 rintro mL jD ⟨h0_,h1_⟩
 have aQ:Aside0 (Kd.R (Kd.int .u8) 5 jD w.heap.size (fun _=>True) mL gZ):=⟨h0_⟩
 have aR:Aside0 (Below w.heap.size w jD):=⟨h1_⟩
 clear HB
 clear h0_ h1_
 have hD:=aQ
 have HB:=aR
 clear aQ aR
 have hHeld:=trivial
 refine norm_ (a':=?_) ?_ ?_
 rotate_left
 ·simp only [putAll,Act.put,zL0,zL1,zL2]
  rfl
 refine pure_ (i:=9) (N:=some 27) (v:=?_) (a':=?_) #[true,true,true,true,true,true,true,true,true,true,false] rfl rfl (any_of HT_.out zY2) (fun _ _ _ h=>h) (Or.inl ⟨by rfl,?_⟩) ?_ ?_
 rotate_left
 ·intro w'
  go_simp
  with_reducible rfl
 rotate_left
 ·simp only [Act.put,zL0,zL1,zL2,i64_w,i32_w]
  rfl
 refine pure_ (i:=10) (N:=some 2) (v:=?_) (a':=?_) #[true,true,true,true,true,true,true,true,true,true,true] rfl rfl (any_of HT_.out zY2) (fun _ _ _ h=>h) (Or.inl ⟨by rfl,?_⟩) ?_ ?_
 rotate_left
 ·intro w'
  go_simp
  with_reducible rfl
 rotate_left
 ·simp only [Act.put,zL0,zL1,zL2,i64_w,i32_w]
  rfl
 refine done_ (done_of HT_.out zY2) ?_
 try go_wp2
 go_ret
 exact ⟨zT,zB⟩
def spec_l1Put.f (aa:ByteArray) (ab:ByteArray):Option (ByteArray):=(spec_l1Null.f aa ab).bind fun cM=>(if cM=true then (some (⟨#[60,62]⟩:ByteArray)) else (if 1+aa.size≤9223372036854775807 then (if ((⟨#[60]⟩:ByteArray)++aa).size+1≤9223372036854775807 then (if (((⟨#[60]⟩:ByteArray)++aa)++(⟨#[64]⟩:ByteArray)).size+ab.size≤9223372036854775807 then (if ((((⟨#[60]⟩:ByteArray)++aa)++(⟨#[64]⟩:ByteArray))++ab).size+1≤9223372036854775807 then (some (((((⟨#[60]⟩:ByteArray)++aa)++(⟨#[64]⟩:ByteArray))++ab)++(⟨#[62]⟩:ByteArray))) else (none)) else (none)) else (none)) else (none)))
set_option maxHeartbeats 8000000 in
set_option maxRecDepth 100000 in
theorem spec_l1Put.calls (aa:ByteArray) (ab:ByteArray) (r:ByteArray) (w:World) (h:spec_l1Put.f aa ab=some r) :
 Calls Tryz.prog 62 #[.agg #[.string aa,.string ab]] w fun e w'=>e=.returned (.string r)∧Below w.heap.size w w':=by
 have hu24:=Tryz.underlying24
 have HB:=zA (Below.refl w.heap.size w)
 have H:((spec_l1Null.f aa ab).bind fun cM=>(if cM=true then (some bz13) else (if 1+aa.size≤9223372036854775807 then (if (bz3++aa).size+1≤9223372036854775807 then (if ((bz3++aa)++bz4).size+ab.size≤9223372036854775807 then (if (((bz3++aa)++bz4)++ab).size+1≤9223372036854775807 then (some ((((bz3++aa)++bz4)++ab)++bz11)) else (none)) else (none)) else (none)) else (none))))=some r:=h
 clear h
 replace H:=Option.bind_eq_some_iff.mp H
 obtain ⟨cM,bv,H⟩:=H
 try dsimp only at H
 have A2:=zA bv
 clear bv
 by_cases c3:cM=true
 ·subst c3
  rw [if_pos rfl] at H
  obtain rfl:=Option.some.inj H
  go_enter Tryz.func62,Tryz.ntmps62
  go_wp2_with (first|((with_reducible refine zq5 (N:=1) rfl ?_);refine zE (N:=1) (cs:=#[.string aa,.string ab]) (t:=24) ?_;intro b3 hg w4 hbox hb;have aI:=zA hbox;have gt:=zA (zS hg:w.heap.size≤b3);have gu:=zA (zS hg:w.heap.size≤b3);replace HB:=zA (zq0 zB hb);clear hb hbox hg;obtain ⟨_,_⟩:=zc2 aI.out;obtain ⟨_,_⟩:=zf2 aI.out)|((with_reducible refine zq2 (f:=56) rfl ?_);refine zq4 (some 4) rfl rfl Tryz.func56 zY2 rfl #[.agg #[.string aa,.string ab]] rfl zY0 ?_;(with_reducible refine (spec_l1Null.calls aa ab true _ A2.out).mono ?_);rintro e w6 ⟨rfl,hb⟩;refine ⟨_,rfl,?_⟩;replace aI:=zA (zq1 (zK aI.out) hb);replace HB:=zA (zq0 zB hb);clear hb))
  go_ret
  exact ⟨zT,zB⟩
 replace c3:=Bool.eq_false_iff.mpr c3
 subst c3
 rw [if_neg zfn] at H
 obtain ⟨c7,H⟩:=zp H
 have c7b0:=eq_true c7
 have c7b1:decide (1+aa.size≤9223372036854775807)=true:=decide_eq_true c7
 try have c7b2:(9223372036854775807 < 1+aa.size)=False:=eq_false (Nat.not_lt.2 c7)
 obtain ⟨c8,H⟩:=zp H
 have c8b0:=eq_true c8
 have c8b1:decide ((bz3++aa).size+1≤9223372036854775807)=true:=decide_eq_true c8
 try have c8b2:(9223372036854775807 < (bz3++aa).size+1)=False:=eq_false (Nat.not_lt.2 c8)
 try have c8b3:=c8
 try simp only [ByteArray.size_append',sz1,sz2,sz3,sz4,sz5,sz6,sz7,sz8] at c8b3
 try have c8b4:=eq_true c8b3
 try have c8b5:=eq_false (Nat.not_lt.2 c8b3)
 obtain ⟨c9,H⟩:=zp H
 have c9b0:=eq_true c9
 have c9b1:decide (((bz3++aa)++bz4).size+ab.size≤9223372036854775807)=true:=decide_eq_true c9
 try have c9b2:(9223372036854775807 < ((bz3++aa)++bz4).size+ab.size)=False:=eq_false (Nat.not_lt.2 c9)
 try have c9b3:=c9
 try simp only [ByteArray.size_append',sz1,sz2,sz3,sz4,sz5,sz6,sz7,sz8] at c9b3
 try have c9b4:=eq_true c9b3
 try have c9b5:=eq_false (Nat.not_lt.2 c9b3)
 obtain ⟨ce,H⟩:=zp H
 have c10b0:=eq_true ce
 have c10b1:decide ((((bz3++aa)++bz4)++ab).size+1≤9223372036854775807)=true:=decide_eq_true ce
 try have c10b2:(9223372036854775807 < (((bz3++aa)++bz4)++ab).size+1)=False:=eq_false (Nat.not_lt.2 ce)
 try have c10b3:=ce
 try simp only [ByteArray.size_append',sz1,sz2,sz3,sz4,sz5,sz6,sz7,sz8] at c10b3
 try have c10b4:=eq_true c10b3
 try have c10b5:=eq_false (Nat.not_lt.2 c10b3)
 obtain rfl:=Option.some.inj H
 go_enter Tryz.func62,Tryz.ntmps62
 go_wp2_with (first|((with_reducible refine zq5 (N:=1) rfl ?_);refine zE (N:=1) (cs:=#[.string aa,.string ab]) (t:=24) ?_;intro b3 hg gv hbox hb;have aI:=zA hbox;have gt:=zA (zS hg:w.heap.size≤b3);have gu:=zA (zS hg:w.heap.size≤b3);replace HB:=zA (zq0 zB hb);clear hb hbox hg;obtain ⟨_,_⟩:=zc2 aI.out;obtain ⟨_,_⟩:=zf2 aI.out)|((with_reducible refine zq2 (f:=56) rfl ?_);refine zq4 (some 4) rfl rfl Tryz.func56 zY2 rfl #[.agg #[.string aa,.string ab]] rfl zY0 ?_;(with_reducible refine (spec_l1Null.calls aa ab false _ A2.out).mono ?_);rintro e g0 ⟨rfl,hb⟩;refine ⟨_,rfl,?_⟩;replace aI:=zA (zq1 (zK aI.out) hb);replace HB:=zA (zq0 zB hb);clear hb;obtain ⟨_,_⟩:=zc2 aI.out;obtain ⟨_,_⟩:=zf2 aI.out))
 go_ret
 exact ⟨zT,zB⟩
end Go.Proofs.YtjdpdkdhfnpcgaaGreatDoor.Q
