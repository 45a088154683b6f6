/- Of a text of ours what this claim needs. -/
import Derived.Test.YtjdpdkdhfnpcgaaGreatDoorZzFnExactNoteGetSQ0
import Derived.Test.YtjdpdkdhfnpcgaaGreatDoorZzFnExactNoteGetSAu
import Derived.Test.YtjdpdkdhfnpcgaaGreatDoorZzFnExactNoteGetSQ13
import Derived.Test.YtjdpdkdhfnpcgaaGreatDoorZzFnExactNoteGetSQ25
import Derived.Test.YtjdpdkdhfnpcgaaGreatDoorZzFnExactNoteGetSHDot
import Derived.Test.YtjdpdkdhfnpcgaaGreatDoorZzFnExactNoteGetSHSplit
namespace Go.Proofs.YtjdpdkdhfnpcgaaGreatDoor.Q
open Go.RowKit Go.Proofs.YtjdpdkdhfnpcgaaGreatDoorW.PrintWords Go.Proofs.YtjdpdkdhfnpcgaaGreatDoorW.PrintLast Go.Proofs.YtjdpdkdhfnpcgaaGreatDoorW.PrintMore
attribute [local go_sem] max2_int min2_int max_two min_two max_three min_three max_four min_four
set_option linter.unusedVariables false
set_option linter.unusedSimpArgs false
def impl_split.l0:Nat→ByteArray→List ByteArray→Option (List ByteArray × ByteArray)
 | 0,_,_=>none
 | k+1,x0,x4=>(strings_Cut.f x0 (⟨#[13,10]⟩:ByteArray)).bind fun l7=>(if l7.2.2=true then (if x4.length < 8796093022208 then (impl_split.l0 k l7.2.1 (x4++[l7.1])) else (none)) else (some (x4,x0)))
def impl_split.f (k:Nat) (a0:ByteArray):Option (List ByteArray × ByteArray):=impl_split.l0 k a0 ([]:List ByteArray)
set_option maxHeartbeats 8000000 in
set_option maxRecDepth 100000 in
theorem impl_split.calls (k:Nat) (a0:ByteArray) (r1:List ByteArray) (r2:ByteArray) (w:World) (hG:GOK w) (h:impl_split.f k a0=some (r1,r2)) :
 Calls Tryz.prog 158 #[.string a0] w fun e w'=>∃ fO:Value,e=.returned (.tuple #[fO,.string r2])∧Kd.R Kd.string 9 w' w.heap.size (fun _=>True) fO r1∧Below w.heap.size w w':=by
 have HG:=zA hG
 clear hG
 have HB:=zA (Below.refl w.heap.size w)
 have H:(impl_split.l0 k a0 ([]:List ByteArray))=some (r1,r2):=h
 clear h
 have H':=zA H
 clear H
 go_enter Tryz.func158,Tryz.ntmps158
 go_wp2
 go_loopg [0,4] k (fun kq v0 v4 w'=>∃ (bY:ByteArray) (ak:List ByteArray),v0=.string bY∧Aside0 (impl_split.l0 kq bY ak=some (r1,r2))∧Aside0 (kq≤k)∧Aside0 (Kd.R Kd.string 9 w' w.heap.size (fun _=>True) v4 ak)∧Aside0 (Below w.heap.size w w'))
 case atStart=>exact ⟨(a0),(([]:List ByteArray)),zY3,H',⟨Nat.le_refl _⟩,⟨zNil⟩,⟨zB⟩⟩
 case round =>
  clear H'
  try clear c1
  obtain ⟨bY,ak,rfl,HA,HK1,au,HB⟩:=hrel
  cases gk with
  | zero=>exact absurd HA.out (by simp [impl_split.l0])
  | succ k1 =>
   have H:=HA.out
   clear HA
   simp only [impl_split.l0] at H
   replace H:=Option.bind_eq_some_iff.mp H
   obtain ⟨⟨aH,ai,cn⟩,bv,H⟩:=H
   try dsimp only at H
   have A2:=zA bv
   clear bv
   by_cases c3:cn=true
   rotate_left
   ·replace c3:=Bool.eq_false_iff.mpr c3
    subst c3
    rw [if_neg zfn] at H
    simp only [Option.some.injEq,Prod.mk.injEq] at H
    obtain ⟨rfl,rfl⟩:=H
    go_wp2_with (first|((with_reducible refine zq2 (f:=33) rfl ?_);refine zq4 (some 10) rfl rfl Tryz.func33 zY2 rfl #[.string bY,.string bz5] rfl zY0 ?_;(with_reducible refine (strings_Cut.calls bY bz5 aH ai false _ ?side1 A2.out).mono ?_);(case side1=>exact zg);rintro e w' ⟨rfl,⟨nd,rfl⟩⟩;refine ⟨_,rfl,?_⟩))
    go_ret2
    exact ⟨_,zT,by (with_reducible repeat (first|apply Kd.z1|apply Kd.z4|apply Kd.z3));exact au.out,zB⟩
   subst c3
   rw [if_pos rfl] at H
   obtain ⟨c4,H⟩:=zp H
   have LMc4:=zA c4
   clear c4
   obtain ⟨jJ,ix⟩:∃ y_:List ByteArray,y_=(ak++[aH]):=⟨_,rfl⟩
   replace H:(impl_split.l0 k1 ai jJ)=some (r1,r2):=zX ix H
   have lW:=zA ix
   clear ix
   have H':=zA H
   clear H
   go_wp2_with (first|((with_reducible refine zq2 (f:=33) rfl ?_);refine zq4 (some 10) rfl rfl Tryz.func33 zY2 rfl #[.string bY,.string bz5] rfl zY0 ?_;(with_reducible refine (strings_Cut.calls bY bz5 aH ai true _ ?side1 A2.out).mono ?_);(case side1=>exact zg);rintro e w' ⟨rfl,⟨nd,rfl⟩⟩;refine ⟨_,rfl,?_⟩)|((with_reducible refine gate_builtin (b:=.append) (xs:=#[.tmp 18,.tmp 20]) rfl ?_);at_builtin;refine Kd.R_append Kd.string (w0:=w) w.heap.size rfl (.tmp 18) (.tmp 20) 26 9 (.string ⟨#[]⟩) 16 rfl Tryz.underlying26 info9 rfl zY4 zY6 u4 ak aH [.string aH] (fun _=>True) (fun _=>False) rfl rfl ?aP (fun _ hk=>hk.elim) ?aF ?aO ?aB ?aS ?aL ?_;(case aP=>exact rfl);(case aB=>exact zB);(case aF=>exact (fun _ _=>trivial));(case aO=>exact (zVR au.out));(case aS=>exact (zq7 zB));(case aL=>have:=LMc4.out;omega);intro oa w5 ho hb hg hat;rw [← lW.out] at ho;have aQ:=zA (hb);have aR:=zA (ho);clear HB;clear au;have HB:=aQ;have hJ:=aR;clear aQ aR;clear ho hb hg hat))
   go_roundg k1
   case measure=>have:=HK1.out;omega
   case rel=>exact ⟨(ai),(jJ),zY3,H',⟨by have:=HK1.out;omega⟩,⟨zVR hJ.out⟩,⟨zB⟩⟩
def impl_LinesOf.f (k:Nat) (a0:ByteArray):Option (List ByteArray × ByteArray):=if (a0.size:Int) > 800 then (some (([]:List ByteArray),(⟨#[]⟩:ByteArray))) else ((impl_split.f k a0).bind fun fp=>(some (fp.1,fp.2)))
set_option maxHeartbeats 8000000 in
set_option maxRecDepth 100000 in
theorem impl_LinesOf.calls (k:Nat) (a0:ByteArray) (r1:List ByteArray) (r2:ByteArray) (w:World) (hG:GOK w) (h:impl_LinesOf.f k a0=some (r1,r2)) :
 Calls Tryz.prog 119 #[.string a0] w fun e w'=>∃ fO:Value,e=.returned (.tuple #[fO,.string r2])∧Kd.R Kd.string 9 w' w.heap.size (fun _=>True) fO r1∧Below w.heap.size w w':=by
 have HG:=zA hG
 clear hG
 have HB:=zA (Below.refl w.heap.size w)
 have H:(if (a0.size:Int) > 800 then (some (([]:List ByteArray),bz0)) else ((impl_split.f k a0).bind fun fp=>(some (fp.1,fp.2))))=some (r1,r2):=h
 clear h
 by_cases c2:(a0.size:Int) > 800
 ·rw [if_pos c2] at H
  have c2b0:decide (800 < (a0.size:Int))=true:=decide_eq_true c2
  have c2b1:decide (800 < a0.size)=true:=decide_eq_true zY6
  clear c2
  simp only [Option.some.injEq,Prod.mk.injEq] at H
  obtain ⟨rfl,rfl⟩:=H
  go_enter Tryz.func119,Tryz.ntmps119
  go_wp2
  go_ret2
  exact ⟨_,zT,zNil,zB⟩
 rw [if_neg c2] at H
 have c2b0:decide (800 < (a0.size:Int))=false:=decide_eq_false c2
 have c2b1:decide (800 < a0.size)=false:=decide_eq_false zY6
 clear c2
 replace H:=Option.bind_eq_some_iff.mp H
 obtain ⟨⟨d9,b7⟩,bu,H⟩:=H
 try dsimp only at H
 have A3:=zA bu
 clear bu
 simp only [Option.some.injEq,Prod.mk.injEq] at H
 obtain ⟨rfl,rfl⟩:=H
 go_enter Tryz.func119,Tryz.ntmps119
 go_wp2_with (first|((with_reducible refine zq2 (f:=158) rfl ?_);refine zq4 (some 8) rfl rfl Tryz.func158 zY2 rfl #[.string a0] rfl zY0 ?_;(with_reducible refine (impl_split.calls k a0 d9 b7 _ ?side1 A3.out).mono ?_);(case side1=>exact zg);rintro e w4 ⟨NH,rfl,ar,hb⟩;refine ⟨_,rfl,?_⟩;have Hu:=zA (Kd.z6 ar (zq7 zB));replace HB:=zA (zq0 zB hb);clear hb ar))
 go_ret2
 exact ⟨_,zT,by (with_reducible repeat (first|apply Kd.z1|apply Kd.z4|apply Kd.z3));exact Hu.out,zB⟩
def stringslite_TrimPrefix.f (a0:ByteArray) (a1:ByteArray):Option (ByteArray):=(stringslite_HasPrefix.f a0 a1).bind fun aH=>(if aH=true then (if 0≤(a1.size:Int) then (if (a1.size:Int)≤(a0.size:Int) then (some (a0.extract ((a1.size:Int):Int).toNat a0.size)) else (none)) else (none)) else (some a0))
set_option maxHeartbeats 8000000 in
set_option maxRecDepth 100000 in
theorem stringslite_TrimPrefix.calls (a0:ByteArray) (a1:ByteArray) (r:ByteArray) (w:World) (h:stringslite_TrimPrefix.f a0 a1=some r) :
 Calls Tryz.prog 159 #[.string a0,.string a1] w fun e w'=>e=.returned (.string r)∧Drawn0 w w':=by
 have H:((stringslite_HasPrefix.f a0 a1).bind fun aH=>(if aH=true then (if 0≤(a1.size:Int) then (if (a1.size:Int)≤(a0.size:Int) then (some (a0.extract ((a1.size:Int):Int).toNat a0.size)) else (none)) else (none)) else (some a0)))=some r:=h
 clear h
 replace H:=Option.bind_eq_some_iff.mp H
 obtain ⟨aH,bu,H⟩:=H
 try dsimp only at H
 have A3:=zA bu
 clear bu
 by_cases c4:aH=true
 rotate_left
 ·replace c4:=Bool.eq_false_iff.mpr c4
  subst c4
  rw [if_neg zfn] at H
  obtain rfl:=Option.some.inj H
  go_enter Tryz.func159,Tryz.ntmps159
  go_wp2_with (first|((with_reducible refine zq2 (f:=138) rfl ?_);refine zq4 (some 7) rfl rfl Tryz.func138 zY2 rfl #[.string a0,.string a1] rfl zY0 ?_;(with_reducible refine (stringslite_HasPrefix.calls a0 a1 false _ A3.out).mono ?_);rintro e w' ⟨rfl,⟨nd,rfl⟩⟩;refine ⟨_,rfl,?_⟩))
  go_ret
  exact ⟨by first|rfl|(simp;done)|(simp [*];done),by repeat (first|exact Drawn0.refl _|apply Drawn0.step)⟩
 subst c4
 rw [if_pos rfl] at H
 obtain ⟨c5,H⟩:=zp H
 have c5b0:=eq_true c5
 have c5b1:decide (0≤(a1.size:Int))=true:=decide_eq_true c5
 clear c5
 obtain ⟨c6,H⟩:=zp H
 have c6b0:=eq_true c6
 have c6b1:decide ((a1.size:Int)≤(a0.size:Int))=true:=decide_eq_true c6
 clear c6
 obtain rfl:=Option.some.inj H
 go_enter Tryz.func159,Tryz.ntmps159
 go_wp2_with (first|((with_reducible refine zq2 (f:=138) rfl ?_);refine zq4 (some 7) rfl rfl Tryz.func138 zY2 rfl #[.string a0,.string a1] rfl zY0 ?_;(with_reducible refine (stringslite_HasPrefix.calls a0 a1 true _ A3.out).mono ?_);rintro e w' ⟨rfl,⟨nd,rfl⟩⟩;refine ⟨_,rfl,?_⟩))
 go_ret
 exact ⟨by first|rfl|(simp;done)|(simp [*];done),by repeat (first|exact Drawn0.refl _|apply Drawn0.step)⟩
def strings_TrimPrefix.f (a0:ByteArray) (a1:ByteArray):Option (ByteArray):=(stringslite_TrimPrefix.f a0 a1).bind fun ai=>(some ai)
set_option maxHeartbeats 8000000 in
set_option maxRecDepth 100000 in
theorem strings_TrimPrefix.calls (a0:ByteArray) (a1:ByteArray) (r:ByteArray) (w:World) (h:strings_TrimPrefix.f a0 a1=some r) :
 Calls Tryz.prog 120 #[.string a0,.string a1] w fun e w'=>e=.returned (.string r)∧Drawn0 w w':=by
 have H:((stringslite_TrimPrefix.f a0 a1).bind fun ai=>(some ai))=some r:=h
 clear h
 replace H:=Option.bind_eq_some_iff.mp H
 obtain ⟨ai,bu,H⟩:=H
 try dsimp only at H
 have A3:=zA bu
 clear bu
 obtain rfl:=Option.some.inj H
 go_enter Tryz.func120,Tryz.ntmps120
 go_wp2_with (first|((with_reducible refine zq2 (f:=159) rfl ?_);refine zq4 (some 7) rfl rfl Tryz.func159 zY2 rfl #[.string a0,.string a1] rfl zY0 ?_;(with_reducible refine (stringslite_TrimPrefix.calls a0 a1 ai _ A3.out).mono ?_);rintro e w' ⟨rfl,⟨nd,rfl⟩⟩;refine ⟨_,rfl,?_⟩))
 go_ret
 exact ⟨by first|rfl|(simp;done)|(simp [*];done),by repeat (first|exact Drawn0.refl _|apply Drawn0.step)⟩
def impl_DotPut.f (k:Nat) (l0:List ByteArray):Option (ByteArray):=(impl_isBody.f k l0).bind fun aH=>(if aH=true then ((impl_dotted.f l0).bind fun ai=>(some ai)) else (some (⟨#[]⟩:ByteArray)))
set_option maxHeartbeats 8000000 in
set_option maxRecDepth 100000 in
theorem impl_DotPut.calls (k:Nat) (A0:Option Addr) (c0:Nat) (l0:List ByteArray) (r:ByteArray) (w:World) (dr:Kd.C Kd.string w A0 l0.length l0) (dt:l0.length≤c0) (h:impl_DotPut.f k l0=some r) :
 Calls Tryz.prog 121 #[.slice A0 l0.length c0] w fun e w'=>e=.returned (.string r)∧Below w.heap.size w w':=by
 have cW:=zA dr
 have fH:=zA dt
 clear dr dt
 have HB:=zA (Below.refl w.heap.size w)
 have H:((impl_isBody.f k l0).bind fun aH=>(if aH=true then ((impl_dotted.f l0).bind fun ai=>(some ai)) else (some bz0)))=some r:=h
 clear h
 replace H:=Option.bind_eq_some_iff.mp H
 obtain ⟨aH,bv,H⟩:=H
 try dsimp only at H
 have A2:=zA bv
 clear bv
 by_cases c3:aH=true
 rotate_left
 ·replace c3:=Bool.eq_false_iff.mpr c3
  subst c3
  rw [if_neg zfn] at H
  obtain rfl:=Option.some.inj H
  go_enter Tryz.func121,Tryz.ntmps121
  go_wp2_with (first|((with_reducible refine zq2 (f:=69) rfl ?_);refine zq4 (some 4) rfl rfl Tryz.func69 zY2 rfl #[.slice A0 l0.length c0] rfl zY0 ?_;(with_reducible refine (impl_isBody.calls k _ _ l0 false _ ?side1 ?side2 A2.out).mono ?_);(case side1=>exact zC cW.out);(case side2=>exact fH.out);rintro e w' ⟨rfl,⟨nd,rfl⟩⟩;refine ⟨_,rfl,?_⟩))
  go_ret
  exact ⟨zT,zB⟩
 subst c3
 rw [if_pos rfl] at H
 replace H:=Option.bind_eq_some_iff.mp H
 obtain ⟨ai,ci,H⟩:=H
 try dsimp only at H
 have A4:=zA ci
 clear ci
 obtain rfl:=Option.some.inj H
 go_enter Tryz.func121,Tryz.ntmps121
 go_wp2_with (first|((with_reducible refine zq2 (f:=69) rfl ?_);refine zq4 (some 4) rfl rfl Tryz.func69 zY2 rfl #[.slice A0 l0.length c0] rfl zY0 ?_;(with_reducible refine (impl_isBody.calls k _ _ l0 true _ ?side1 ?side2 A2.out).mono ?_);(case side1=>exact zC cW.out);(case side2=>exact fH.out);rintro e w' ⟨rfl,⟨nd,rfl⟩⟩;refine ⟨_,rfl,?_⟩)|((with_reducible refine zq2 (f:=55) rfl ?_);refine zq4 (some 7) rfl rfl Tryz.func55 zY2 rfl #[.slice A0 l0.length c0] rfl zY0 ?_;(with_reducible refine (impl_dotted.calls _ _ l0 ai _ ?side1 ?side2 A4.out).mono ?_);(case side1=>exact zC cW.out);(case side2=>exact fH.out);rintro e w5 ⟨rfl,hb⟩;refine ⟨_,rfl,?_⟩;replace HB:=zA (zq0 zB hb);clear hb))
 go_ret
 exact ⟨zT,zB⟩
def impl_DotGet.l0:Nat→ByteArray→List ByteArray→List ByteArray→Int→Int→Option (List ByteArray × Bool)
 | 0,_,_,_,_,_=>none
 | k+1,x0,x6,wL,AN,pr=>if pr < AN then (if 0≤pr then (if pr < (wL.length:Int) then ((strings_TrimPrefix.f (rdOf ByteArray.empty wL pr) (⟨#[46]⟩:ByteArray)).bind fun cu=>(if x6.length < 8796093022208 then (impl_DotGet.l0 k x0 (x6++[cu]) wL AN (wrap64 (pr+1))) else (none))) else (none)) else (none)) else ((impl_DotPut.f k x6).bind fun cg=>(if cg.toList=x0.toList then (some (x6,true)) else (some (([]:List ByteArray),false))))
def impl_DotGet.f (k:Nat) (a0:ByteArray):Option (List ByteArray × Bool):=(impl_LinesOf.f k a0).bind fun g6=>(if (g6.1.length:Int)=0 then (some (([]:List ByteArray),false)) else (if 0≤(wrap64 ((g6.1.length:Int) - 1)) then (if (wrap64 ((g6.1.length:Int) - 1))≤(g6.1.length:Int) then ((some (g6.1.take ((wrap64 ((g6.1.length:Int) - 1)):Int).toNat:List ByteArray)).bind fun ed=>(impl_DotGet.l0 k a0 ([]:List ByteArray) ed (ed.length:Int) 0)) else (none)) else (none)))
set_option maxHeartbeats 8000000 in
set_option maxRecDepth 100000 in
theorem impl_DotGet.calls (k:Nat) (a0:ByteArray) (r1:List ByteArray) (r2:Bool) (w:World) (hG:GOK w) (h:impl_DotGet.f k a0=some (r1,r2)) :
 Calls Tryz.prog 72 #[.string a0] w fun e w'=>∃ fO:Value,e=.returned (.tuple #[fO,.bool r2])∧Kd.R Kd.string 9 w' w.heap.size (fun _=>True) fO r1∧Below w.heap.size w w':=by
 have HG:=zA hG
 clear hG
 have HB:=zA (Below.refl w.heap.size w)
 have H:((impl_LinesOf.f k a0).bind fun g6=>(if (g6.1.length:Int)=0 then (some (([]:List ByteArray),false)) else (if 0≤(wrap64 ((g6.1.length:Int) - 1)) then (if (wrap64 ((g6.1.length:Int) - 1))≤(g6.1.length:Int) then ((some (g6.1.take ((wrap64 ((g6.1.length:Int) - 1)):Int).toNat:List ByteArray)).bind fun ed=>(impl_DotGet.l0 k a0 ([]:List ByteArray) ed (ed.length:Int) 0)) else (none)) else (none))))=some (r1,r2):=h
 clear h
 replace H:=Option.bind_eq_some_iff.mp H
 obtain ⟨⟨cn,cp⟩,bv,H⟩:=H
 try dsimp only at H
 have A2:=zA bv
 clear bv
 by_cases c3:(cn.length:Int)=0
 ·rw [if_pos c3] at H
  have c3b0:((cn.length:Int)==0)=true:=beq_iff_eq.mpr c3
  have c3b1:((cn.length:Int) != 0)=false:=bne_eq_false_iff_eq.mpr c3
  clear c3
  simp only [Option.some.injEq,Prod.mk.injEq] at H
  obtain ⟨rfl,rfl⟩:=H
  go_enter Tryz.func72,Tryz.ntmps72
  go_wp2_with (first|((with_reducible refine zq2 (f:=119) rfl ?_);refine zq4 (some 11) rfl rfl Tryz.func119 zY2 rfl #[.string a0] rfl zY0 ?_;(with_reducible refine (impl_LinesOf.calls k a0 cn cp _ ?side1 A2.out).mono ?_);(case side1=>exact zg);rintro e w4 ⟨oa,rfl,ar,hb⟩;refine ⟨_,rfl,?_⟩;have hJ:=zA (Kd.z6 ar (zq7 zB));replace HB:=zA (zq0 zB hb);clear hb ar;obtain ⟨jg,jh,pt⟩:=Kd.z9 hJ.out;subst pt))
  go_ret2
  exact ⟨_,zT,zNil,zB⟩
 rw [if_neg c3] at H
 have c3b0:((cn.length:Int)==0)=false:=beq_eq_false_iff_ne.mpr c3
 have c3b1:((cn.length:Int) != 0)=true:=bne_iff_ne.mpr c3
 have c3b2:¬ (cn=[]):=fun h_=>c3 (by rw [h_];rfl)
 obtain ⟨iJ,hji6⟩:∃ j_:Int,(wrap64 ((cn.length:Int) - 1))=j_:=⟨_,rfl⟩
 replace H:(if 0≤(iJ) then (if (iJ)≤(cn.length:Int) then ((some (cn.take ((iJ):Int).toNat:List ByteArray)).bind fun ed=>(impl_DotGet.l0 k a0 ([]:List ByteArray) ed (ed.length:Int) 0)) else (none)) else (none))=some (r1,r2):=by first|(rw [hji6] at H;exact H)|(simp only [hji6] at H ⊢;exact H)
 (try rw [hji6] at A2)
 have hji6w:(IntKind.i64.wrap ((cn.length:Int) - 1))=iJ:=(i64_w _).trans hji6
 obtain ⟨c7,H⟩:=zp H
 have c7b0:=eq_true c7
 have c7b1:decide (0≤(iJ))=true:=decide_eq_true c7
 clear c7
 obtain ⟨c8,H⟩:=zp H
 have c8b0:=eq_true c8
 have c8b1:decide ((iJ)≤(cn.length:Int))=true:=decide_eq_true c8
 clear c8
 obtain ⟨ed,wM⟩:∃ y_:List ByteArray,y_=(cn.take ((iJ):Int).toNat):=⟨_,rfl⟩
 replace H:(impl_DotGet.l0 k a0 ([]:List ByteArray) ed (ed.length:Int) 0)=some (r1,r2):=zX wM H
 have AO:=zA wM
 clear wM
 have H':=zA H
 clear H
 go_enter Tryz.func72,Tryz.ntmps72
 go_wp2_with (first|((with_reducible refine zq2 (f:=119) rfl ?_);refine zq4 (some 11) rfl rfl Tryz.func119 zY2 rfl #[.string a0] rfl zY0 ?_;(with_reducible refine (impl_LinesOf.calls k a0 cn cp _ ?side1 A2.out).mono ?_);(case side1=>exact zg);rintro e w9 ⟨oa,rfl,ar,hb⟩;refine ⟨_,rfl,?_⟩;have hJ:=zA (Kd.z6 ar (zq7 zB));replace HB:=zA (zq0 zB hb);clear hb ar;obtain ⟨dG,dc,nD⟩:=Kd.z9 hJ.out;subst nD;have iw:((iJ):Int)≤((cn.length:Int):Int):=of_decide_eq_true zY1;obtain ⟨i011,AP,_,hsz11,_⟩:=info_parts info9;have hcut11:=cut_to (P:=Tryz.prog) 26 9 .i64 Tryz.underlying26 AP dG cn.length dc (iJ) (of_decide_eq_true zY1) iw (Kd.z8 hJ.out).2.1;have sb:=Kd.R_take (m:=((iJ):Int).toNat) hJ.out zY6;have AQ:ed.length=((iJ):Int).toNat:=(by rw [AO.out,zL7];omega);rw [← AO.out] at sb;rw [← AQ] at sb hcut11;clear AQ AP hsz11 hJ;have Hv:=zA sb;clear sb;replace iw:=eq_true iw))
 go_loopg [6,23] k (fun kq v6 Hw w'=>∃ (aM:List ByteArray) (gm:Int),Hw=.int .i64 gm∧Aside0 (impl_DotGet.l0 kq a0 aM ed (ed.length:Int) gm=some (r1,r2))∧Aside0 (kq≤k)∧Aside0 (Kd.R Kd.string 9 w' w.heap.size (fun k_=>some k_≠((.slice dG ed.length dc):Value).ownBlock) v6 aM)∧Aside0 (Kd.R Kd.string 9 w' w.heap.size (fun k_=>some k_≠(v6:Value).ownBlock) (.slice dG ed.length dc) ed)∧Aside0 (Below w.heap.size w w'))
 case atStart=>exact ⟨(([]:List ByteArray)),(0),zY3,H',⟨Nat.le_refl _⟩,⟨zNil⟩,⟨by (with_reducible repeat (first|apply Kd.z1|apply Kd.z4|apply Kd.z3));exact Kd.z7 Hv.out (fun _ hk=>(by simp [Value.ownBlock]))⟩,⟨zB⟩⟩
 case round =>
  clear H'
  try clear c1
  try clear q1
  try clear p2
  try clear c3
  try clear c3b0
  try clear c3b1
  try clear c3b2
  try clear p6
  try clear c7
  try clear c7b0
  try clear c7b1
  try clear c8
  try clear c8b0
  try clear c8b1
  try clear dI
  try clear iw
  try clear iw
  obtain ⟨aM,gm,rfl,HA,HK1,dD,ji,HB⟩:=hrel
  cases gk with
  | zero=>exact absurd HA.out (by simp [impl_DotGet.l0])
  | succ k1 =>
   have H:=HA.out
   clear HA
   simp only [impl_DotGet.l0] at H
   by_cases bH:gm < (ed.length:Int)
   rotate_left
   ·rw [if_neg bH] at H
    have c12b0:decide (gm < (ed.length:Int))=false:=decide_eq_false bH
    clear bH
    replace H:=Option.bind_eq_some_iff.mp H
    obtain ⟨cg,AR,H⟩:=H
    try dsimp only at H
    have AS:=zA AR
    clear AR
    by_cases cL:cg.toList=a0.toList
    rotate_left
    ·rw [if_neg cL] at H
     have c19b0:(cg.toList==a0.toList)=false:=beq_eq_false_iff_ne.mpr cL
     have c19b1:(cg.toList != a0.toList)=true:=bne_iff_ne.mpr cL
     simp only [Option.some.injEq,Prod.mk.injEq] at H
     obtain ⟨rfl,rfl⟩:=H
     obtain ⟨zO,vk,vl⟩:=Kd.z9 dD.out
     subst vl
     go_wp2_with (first|((with_reducible refine zq2 (f:=121) rfl ?_);refine zq4 (some 34) rfl rfl Tryz.func121 zY2 rfl #[.slice zO aM.length vk] rfl zY0 ?_;(with_reducible refine (impl_DotPut.calls k1 _ _ aM cg _ ?side1 ?side2 AS.out).mono ?_);(case side1=>exact zC (Kd.z8 dD.out).2.2);(case side2=>exact (Kd.z8 dD.out).2.1);rintro e kI ⟨rfl,hb⟩;refine ⟨_,rfl,?_⟩;replace dD:=zA (Kd.z2 (zVR dD.out) hb);replace ji:=zA (Kd.z2 (zVR ji.out) hb);replace HB:=zA (zq0 zB hb);clear hb))
     go_ret2
     exact ⟨_,by first|rfl|(simp [errW_none,errW_some]<;>rfl)|(simp only [← hji6];first|rfl|(simp [errW_none,errW_some]<;>rfl))|(simp [*,errW_none,errW_some]<;>rfl),zNil,zB⟩
    rw [if_pos cL] at H
    have c19b0:(cg.toList==a0.toList)=true:=beq_iff_eq.mpr cL
    have c19b1:(cg.toList != a0.toList)=false:=bne_eq_false_iff_eq.mpr cL
    clear cL
    simp only [Option.some.injEq,Prod.mk.injEq] at H
    obtain ⟨rfl,rfl⟩:=H
    obtain ⟨pu,pv,wN⟩:=Kd.z9 dD.out
    subst wN
    go_wp2_with (first|((with_reducible refine zq2 (f:=121) rfl ?_);refine zq4 (some 34) rfl rfl Tryz.func121 zY2 rfl #[.slice pu aM.length pv] rfl zY0 ?_;(with_reducible refine (impl_DotPut.calls k1 _ _ aM cg _ ?side1 ?side2 AS.out).mono ?_);(case side1=>exact zC (Kd.z8 dD.out).2.2);(case side2=>exact (Kd.z8 dD.out).2.1);rintro e yG ⟨rfl,hb⟩;refine ⟨_,rfl,?_⟩;replace dD:=zA (Kd.z2 (zVR dD.out) hb);replace ji:=zA (Kd.z2 (zVR ji.out) hb);replace HB:=zA (zq0 zB hb);clear hb))
    go_ret2
    exact ⟨_,by first|rfl|(simp [errW_none,errW_some]<;>rfl)|(simp only [← hji6];first|rfl|(simp [errW_none,errW_some]<;>rfl))|(simp [*,errW_none,errW_some]<;>rfl),by (with_reducible repeat (first|apply Kd.z1|apply Kd.z4|apply Kd.z3));exact Kd.z7 dD.out (fun _ hk=>trivial),zB⟩
   rw [if_pos bH] at H
   have c12b0:decide (gm < (ed.length:Int))=true:=decide_eq_true bH
   clear bH
   obtain ⟨bj,H⟩:=zp H
   have c13b0:decide (0≤gm)=true:=decide_eq_true bj
   clear bj
   obtain ⟨bB,H⟩:=zp H
   have c14b0:decide (gm < (ed.length:Int))=true:=decide_eq_true bB
   clear bB
   replace H:=Option.bind_eq_some_iff.mp H
   obtain ⟨cu,kM,H⟩:=H
   try dsimp only at H
   have lU:=zA kM
   clear kM
   obtain ⟨ck,H⟩:=zp H
   have LMc16:=zA ck
   clear ck
   obtain ⟨oI,ma⟩:∃ y_:List ByteArray,y_=(aM++[cu]):=⟨_,rfl⟩
   replace H:(impl_DotGet.l0 k1 a0 oI ed (ed.length:Int) (wrap64 (gm+1)))=some (r1,r2):=zX ma H
   have vn:=zA ma
   clear ma
   have H':=zA H
   clear H
   have wO:0≤(gm:Int):=of_decide_eq_true zY1
   have wP:gm < (ed.length:Int):=of_decide_eq_true zY1
   obtain ⟨Hx,Hy,NI⟩:=Kd.z11 (Kd.z8 ji.out).2.2 gm wO wP
   cases Hy
   replace wO:=eq_true wO
   replace wP:=eq_true wP
   go_wp2_with (first|((with_reducible refine zq2 (f:=120) rfl ?_);refine zq4 (some 29) rfl rfl Tryz.func120 zY2 rfl #[.string (rdOf ByteArray.empty ed gm),.string bz12] rfl zY0 ?_;(with_reducible refine (strings_TrimPrefix.calls (rdOf ByteArray.empty ed gm) bz12 cu _ lU.out).mono ?_);rintro e w' ⟨rfl,⟨nd,rfl⟩⟩;refine ⟨_,rfl,?_⟩)|((with_reducible refine gate_builtin (b:=.append) (xs:=#[.tmp 27,.tmp 30]) rfl ?_);at_builtin;refine Kd.R_append Kd.string (w0:=w) w.heap.size rfl (.tmp 27) (.tmp 30) 26 9 (.string ⟨#[]⟩) 16 rfl Tryz.underlying26 info9 rfl zY4 zY6 u6 aM cu [.string cu] (fun k_=>some k_≠(.slice (some Hx) ed.length dc:Value).ownBlock) (fun _=>False) rfl rfl ?aP (fun _ hk=>hk.elim) ?aF ?aO ?aB ?aS ?aL ?_;(case aP=>exact rfl);(case aB=>exact zB);(case aF=>exact (fun k_ hk=>Kd.fresh' (Kd.R_lt (zVR ji.out)) k_ hk));(case aO=>exact (zVR dD.out));(case aS=>exact (zq7 zB));(case aL=>have:=LMc16.out;omega);intro Fs jz ho hb hg hat;rw [← vn.out] at ho;have aQ:=zA (Kd.R_after (ok:=(fun _=>True)) (by (with_reducible repeat (first|apply Kd.z1|apply Kd.z4|apply Kd.z3));exact Kd.z7 ji.out (fun _ hk=>⟨trivial,hk⟩)) hg hat);have aR:=zA (hb);have dV:=zA (ho);clear ji;clear HB;clear dD;have ji:=aQ;have HB:=aR;have vp:=dV;clear aQ aR dV;clear ho hb hg hat))
   go_roundg k1
   case measure=>have:=HK1.out;omega
   case rel=>exact ⟨(oI),(wrap64 (gm+1)),zY3,H',⟨by have:=HK1.out;omega⟩,⟨zVR vp.out⟩,⟨by (with_reducible repeat (first|apply Kd.z1|apply Kd.z4|apply Kd.z3));exact Kd.z7 ji.out (fun _ hk=>hk.2)⟩,⟨zB⟩⟩
end Go.Proofs.YtjdpdkdhfnpcgaaGreatDoor.Q
