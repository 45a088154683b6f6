/- Of a text of ours what this claim needs. -/
import Derived.Test.YthkibaldmjfmmaaGreatDoorZzFnMailGetSQ0
import Derived.Test.YthkibaldmjfmmaaGreatDoorZzFnMailGetSQ1
import Derived.Test.YthkibaldmjfmmaaGreatDoorZzFnMailGetSQ2
import Derived.Test.YthkibaldmjfmmaaGreatDoorZzFnMailGetSQ4
import Derived.Test.YthkibaldmjfmmaaGreatDoorZzFnMailGetSQ3
import Derived.Test.YthkibaldmjfmmaaGreatDoorZzFnMailGetSHSplit
namespace Go.Proofs.YthkibaldmjfmmaaGreatDoor.Q
open Go.RowKit Go.Proofs.YthkibaldmjfmmaaGreatDoorW.PrintWords Go.Proofs.YthkibaldmjfmmaaGreatDoorW.PrintLast Go.Proofs.YthkibaldmjfmmaaGreatDoorW.PrintMore
attribute [local go_sem] max2_int min2_int max_two min_two max_three min_three max_four min_four
set_option linter.unusedVariables false
set_option linter.unusedSimpArgs false
attribute [local go_sem high] eqA24
def impl_Addr_null.f (a0_0:ByteArray) (a0_1:ByteArray):Option (Bool):=some (a0_0.toList==([]:List UInt8) && (a0_1.toList==([]:List UInt8)))
set_option maxHeartbeats 8000000 in
set_option maxRecDepth 100000 in
theorem impl_Addr_null.calls (a0_0:ByteArray) (a0_1:ByteArray) (r:Bool) (w:World) (h:impl_Addr_null.f a0_0 a0_1=some r) :
 Calls Tryz.prog 51 #[.agg #[.string a0_0,.string a0_1]] w fun e w'=>e=.returned (.bool r)∧Below w.heap.size w w':=by
 have hu24:=Tryz.underlying24
 have HB:=Aside0.mk (Below.refl w.heap.size w)
 have H:(some (a0_0.toList==([]:List UInt8) && (a0_1.toList==([]:List UInt8))))=some r:=h
 clear h
 obtain rfl:=Option.some.inj H
 go_enter Tryz.func51,Tryz.ntmps51
 go_wp2_with (first|((with_reducible refine zq21 (N:=1) rfl ?_);refine zq22 ?hg (N:=1) ?hd (cs:=#[.string a0_0,.string a0_1]) (t:=24) ?hr ?_;(case hd=>rfl);(case hg=>rfl);(case hr=>first|(go_simp;done)|(go_simp;rfl));intro gb101 hg w2 hbox hb;have n0_:=Aside0.mk (zq9 (by repeat (first|(with_reducible first|exact HB.out|apply zq1|apply zq0|apply zq2)|exact HB.out)) hb);have n1_:=Aside0.mk (hbox);have n2_:=Aside0.mk ((by rw [hg];exact (zq10 (by repeat (first|(with_reducible first|exact HB.out|apply zq1|apply zq0|apply zq2)|exact HB.out))):w.heap.size≤gb101));have n3_:=Aside0.mk ((by rw [hg];exact (zq10 (by repeat (first|(with_reducible first|exact HB.out|apply zq1|apply zq0|apply zq2)|exact HB.out))):w.heap.size≤gb101));clear HB;have HB:=n0_;have BK101:=n1_;have GW101:=n2_;have GE101:=n3_;clear n0_ n1_ n2_ n3_;clear hb hbox hg;have hcz3_0:w2.cell? ⟨gb101,0,none⟩=some (.string a0_0):=(zq8 BK101.out 0).trans rfl;have hcz3_1:w2.cell? ⟨gb101,1,none⟩=some (.string a0_1):=(zq8 BK101.out 1).trans rfl;have hfz3_0:=zq6 BK101.out 0;have hfz3_1:=zq6 BK101.out 1))
 go_ret
 exact ⟨by first|rfl|(simp [zq11,zq12]<;>rfl)|(simp [*,zq11,zq12]<;>rfl),by repeat (first|(with_reducible first|exact HB.out|apply zq1|apply zq0|apply zq2|refine zq5 ?_ GE101.out)|exact HB.out)⟩
def impl_within.f (a0:Int) (a1:Int) (a2:Int):Option (Bool):=if a0≥a1 then (some (decide (a0≤a2))) else (some false)
set_option maxHeartbeats 8000000 in
set_option maxRecDepth 100000 in
theorem impl_within.calls (a0:Int) (a1:Int) (a2:Int) (r:Bool) (w:World) (h:impl_within.f a0 a1 a2=some r) :
 Calls Tryz.prog 27 #[.int .i64 a0,.int .i64 a1,.int .i64 a2] w fun e w'=>e=.returned (.bool r)∧Drawn0 w w':=by
 have H:(if a0≥a1 then (some (decide (a0≤a2))) else (some false))=some r:=h
 clear h
 by_cases c4:a0≥a1
 ·rw [if_pos c4] at H
  have c4b0:decide (a1≤a0)=true:=decide_eq_true c4
  clear c4
  obtain rfl:=Option.some.inj H
  go_enter Tryz.func27,Tryz.ntmps27
  go_wp2
  go_ret
  exact ⟨by first|rfl|(simp;done)|(simp [*];done),by repeat (first|exact Drawn0.refl _|apply Drawn0.step)⟩
 ·rw [if_neg c4] at H
  have c4b0:decide (a1≤a0)=false:=decide_eq_false c4
  clear c4
  obtain rfl:=Option.some.inj H
  go_enter Tryz.func27,Tryz.ntmps27
  go_wp2
  go_ret
  exact ⟨by first|rfl|(simp;done)|(simp [*];done),by repeat (first|exact Drawn0.refl _|apply Drawn0.step)⟩
def impl_isLabel.f (a0:ByteArray):Option (Bool):=(impl_within.f (a0.size:Int) 1 8).bind fun t101=>(if t101=true then ((strings_Trim.f a0 (⟨#[97,98,99,100,101,102,103,104,105,106,107,108,109,110,111,112,113,114,115,116,117,118,119,120,121,122,48,49,50,51,52,53,54,55,56,57]⟩:ByteArray)).bind fun t102=>(some (t102.toList==([]:List UInt8)))) else (some false))
set_option maxHeartbeats 8000000 in
set_option maxRecDepth 100000 in
theorem impl_isLabel.calls (a0:ByteArray) (r:Bool) (w:World) (h:impl_isLabel.f a0=some r) :
 Calls Tryz.prog 62 #[.string a0] w fun e w'=>e=.returned (.bool r)∧Below w.heap.size w w':=by
 have HB:=Aside0.mk (Below.refl w.heap.size w)
 have H:((impl_within.f (a0.size:Int) 1 8).bind fun t101=>(if t101=true then ((strings_Trim.f a0 bz36).bind fun t102=>(some (t102.toList==([]:List UInt8)))) else (some false)))=some r:=h
 clear h
 replace H:=Option.bind_eq_some_iff.mp H
 obtain ⟨t101,A20,H⟩:=H
 replace H:(if t101=true then ((strings_Trim.f a0 bz36).bind fun t102=>(some (t102.toList==([]:List UInt8)))) else (some false))=some r:=H
 have A2:=Aside0.mk A20
 clear A20
 by_cases c3:t101=true
 ·subst c3
  have H1:((strings_Trim.f a0 bz36).bind fun t102=>(some (t102.toList==([]:List UInt8))))=some r:=by rw [if_pos rfl] at H;exact H
  clear H
  have H:=H1
  clear H1
  replace H:=Option.bind_eq_some_iff.mp H
  obtain ⟨t102,A40,H⟩:=H
  replace H:(some (t102.toList==([]:List UInt8)))=some r:=H
  have A4:=Aside0.mk A40
  clear A40
  obtain rfl:=Option.some.inj H
  go_enter Tryz.func62,Tryz.ntmps62
  go_wp2_with (first|((with_reducible refine zq14 (f:=27) rfl ?_);refine zq20 (some 5) rfl rfl Tryz.func27 (by kernel_rfl) rfl #[.int .i64 (a0.size:Int),.int .i64 1,.int .i64 8] rfl (by (try simp only [List.map_toArray,List.map_cons,List.map_nil]);first|done|rfl|(simp only [List.length_drop,List.length_take];rfl)) ?_;(with_reducible refine (impl_within.calls (a0.size:Int) 1 8 true _ A2.out).mono ?_);rintro e w' ⟨rfl,⟨nd,rfl⟩⟩;refine ⟨_,rfl,?_⟩)|(go_at_call 87;(with_reducible refine (strings_Trim.calls a0 bz36 t102 _ A4.out).mono ?_);rintro e w5 ⟨rfl,hb⟩;have n0_:=Aside0.mk (zq9 (by repeat (first|(with_reducible first|exact HB.out|apply zq1|apply zq0|apply zq2)|exact HB.out)) hb);clear HB;have HB:=n0_;clear n0_;(try clear hb);(try clear hb2);(try clear hk);(try clear hi)))
  go_ret
  exact ⟨by first|rfl|(simp [zq11,zq12]<;>rfl)|(simp [*,zq11,zq12]<;>rfl)|(simp [*,zq11,zq12];cases t102.toList<;>rfl),by repeat (first|(with_reducible first|exact HB.out|apply zq1|apply zq0|apply zq2)|exact HB.out)⟩
 ·replace c3:=Bool.eq_false_iff.mpr c3
  subst c3
  have H1:(some false)=some r:=by rw [if_neg (show ¬ (false=true) by decide)] at H;exact H
  clear H
  have H:=H1
  clear H1
  obtain rfl:=Option.some.inj H
  go_enter Tryz.func62,Tryz.ntmps62
  go_wp2_with (first|((with_reducible refine zq14 (f:=27) rfl ?_);refine zq20 (some 5) rfl rfl Tryz.func27 (by kernel_rfl) rfl #[.int .i64 (a0.size:Int),.int .i64 1,.int .i64 8] rfl (by (try simp only [List.map_toArray,List.map_cons,List.map_nil]);first|done|rfl|(simp only [List.length_drop,List.length_take];rfl)) ?_;(with_reducible refine (impl_within.calls (a0.size:Int) 1 8 false _ A2.out).mono ?_);rintro e w' ⟨rfl,⟨nd,rfl⟩⟩;refine ⟨_,rfl,?_⟩))
  go_ret
  exact ⟨by first|rfl|(simp [zq11,zq12]<;>rfl)|(simp [*,zq11,zq12]<;>rfl)|(simp [*,zq11,zq12];cases t102.toList<;>rfl),by repeat (first|(with_reducible first|exact HB.out|apply zq1|apply zq0|apply zq2)|exact HB.out)⟩
end Go.Proofs.YthkibaldmjfmmaaGreatDoor.Q
