/- Of a text of ours what this claim needs. -/
import Derived.Test.YtjdpdkdhfnpcgaaGreatDoorZzFnExactNoteGetSQ0
import Derived.Test.YtjdpdkdhfnpcgaaGreatDoorZzFnExactNoteGetSAu
namespace Go.Proofs.YtjdpdkdhfnpcgaaGreatDoor.Q
open Go.RowKit Go.Proofs.YtjdpdkdhfnpcgaaGreatDoorW.PrintWords Go.Proofs.YtjdpdkdhfnpcgaaGreatDoorW.PrintLast Go.Proofs.YtjdpdkdhfnpcgaaGreatDoorW.PrintMore
attribute [local go_sem] max2_int min2_int max_two min_two max_three min_three max_four min_four
set_option linter.unusedVariables false
set_option linter.unusedSimpArgs false
def spec_l1Null.f (aa:ByteArray) (ab:ByteArray):Option (Bool):=if aa.toList=([]:List UInt8) then (some (ab.toList==([]:List UInt8))) else (some false)
set_option maxHeartbeats 8000000 in
set_option maxRecDepth 100000 in
theorem spec_l1Null.calls (aa:ByteArray) (ab:ByteArray) (r:Bool) (w:World) (h:spec_l1Null.f aa ab=some r) :
 Calls Tryz.prog 56 #[.agg #[.string aa,.string ab]] w fun e w'=>e=.returned (.bool r)∧Below w.heap.size w w':=by
 have hu24:=Tryz.underlying24
 have HB:=zA (Below.refl w.heap.size w)
 have H:(if aa.toList=([]:List UInt8) then (some (ab.toList==([]:List UInt8))) else (some false))=some r:=h
 clear h
 by_cases c2:aa.toList=([]:List UInt8)
 rotate_left
 ·rw [if_neg c2] at H
  have c2b0:(aa.toList==([]:List UInt8))=false:=beq_eq_false_iff_ne.mpr c2
  have c2b1:(aa.toList != ([]:List UInt8))=true:=bne_iff_ne.mpr c2
  obtain rfl:=Option.some.inj H
  go_enter Tryz.func56,Tryz.ntmps56
  go_wp2_with (first|((with_reducible refine zq5 (N:=1) rfl ?_);refine zE (N:=1) (cs:=#[.string aa,.string ab]) (t:=24) ?_;intro b3 hg w5 hbox hb;have aI:=zA hbox;have gt:=zA (zS hg:w.heap.size≤b3);have gu:=zA (zS hg:w.heap.size≤b3);replace HB:=zA (zq0 zB hb);clear hb hbox hg;obtain ⟨_,_⟩:=zc2 aI.out;obtain ⟨_,_⟩:=zf2 aI.out))
  go_ret
  exact ⟨zT,zB⟩
 rw [if_pos c2] at H
 have c2b0:(aa.toList==([]:List UInt8))=true:=beq_iff_eq.mpr c2
 have c2b1:(aa.toList != ([]:List UInt8))=false:=bne_eq_false_iff_eq.mpr c2
 clear c2
 obtain rfl:=Option.some.inj H
 go_enter Tryz.func56,Tryz.ntmps56
 go_wp2_with (first|((with_reducible refine zq5 (N:=1) rfl ?_);refine zE (N:=1) (cs:=#[.string aa,.string ab]) (t:=24) ?_;intro b3 hg w3 hbox hb;have aI:=zA hbox;have gt:=zA (zS hg:w.heap.size≤b3);have gu:=zA (zS hg:w.heap.size≤b3);replace HB:=zA (zq0 zB hb);clear hb hbox hg;obtain ⟨_,_⟩:=zc2 aI.out;obtain ⟨_,_⟩:=zf2 aI.out))
 go_ret
 exact ⟨zT,zB⟩
def spec_l1In.f (a0:Int) (a1:Int) (a2:Int):Option (Bool):=if a0≥a1 then (some (decide (a0≤a2))) else (some false)
set_option maxHeartbeats 8000000 in
set_option maxRecDepth 100000 in
theorem spec_l1In.calls (a0:Int) (a1:Int) (a2:Int) (r:Bool) (w:World) (h:spec_l1In.f a0 a1 a2=some r) :
 Calls Tryz.prog 58 #[.int .i64 a0,.int .i64 a1,.int .i64 a2] w fun e w'=>e=.returned (.bool r)∧Drawn0 w w':=by
 have H:(if a0≥a1 then (some (decide (a0≤a2))) else (some false))=some r:=h
 clear h
 by_cases c4:a0≥a1
 ·rw [if_pos c4] at H
  have c4b0:decide (a1≤a0)=true:=decide_eq_true c4
  clear c4
  obtain rfl:=Option.some.inj H
  go_enter Tryz.func58,Tryz.ntmps58
  go_wp2
  go_ret
  exact ⟨by first|rfl|(simp;done)|(simp [*];done),by repeat (first|exact Drawn0.refl _|apply Drawn0.step)⟩
 rw [if_neg c4] at H
 have c4b0:decide (a1≤a0)=false:=decide_eq_false c4
 clear c4
 obtain rfl:=Option.some.inj H
 go_enter Tryz.func58,Tryz.ntmps58
 go_wp2
 go_ret
 exact ⟨by first|rfl|(simp;done)|(simp [*];done),by repeat (first|exact Drawn0.refl _|apply Drawn0.step)⟩
end Go.Proofs.YtjdpdkdhfnpcgaaGreatDoor.Q
