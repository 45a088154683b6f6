/- Of a text of ours what this claim needs. -/
import Derived.Test.YtjdpdkdhfnpcgaaGreatDoorZzFnExactNoteGetSQ0
import Derived.Test.YtjdpdkdhfnpcgaaGreatDoorZzFnExactNoteGetSAu
import Derived.Test.YtjdpdkdhfnpcgaaGreatDoorZzFnExactNoteGetSQ11
import Derived.Test.YtjdpdkdhfnpcgaaGreatDoorZzFnExactNoteGetSQ12
import Derived.Test.YtjdpdkdhfnpcgaaGreatDoorZzFnExactNoteGetSHDist
import Derived.Test.YtjdpdkdhfnpcgaaGreatDoorZzFnExactNoteGetSHSplit
namespace Go.Proofs.YtjdpdkdhfnpcgaaGreatDoor.Q
open Go.RowKit Go.Proofs.YtjdpdkdhfnpcgaaGreatDoorW.PrintWords Go.Proofs.YtjdpdkdhfnpcgaaGreatDoorW.PrintLast Go.Proofs.YtjdpdkdhfnpcgaaGreatDoorW.PrintMore
attribute [local go_sem] max2_int min2_int max_two min_two max_three min_three max_four min_four
set_option linter.unusedVariables false
set_option linter.unusedSimpArgs false
def impl_isBody.f (k:Nat) (l0:List ByteArray):Option (Bool):=if (l0.length:Int)≤12 then ((slices_ContainsFunc_string_string_at114.f k l0).bind fun bO=>(some (!bO))) else (some false)
set_option maxHeartbeats 8000000 in
set_option maxRecDepth 100000 in
theorem impl_isBody.calls (k:Nat) (A0:Option Addr) (c0:Nat) (l0:List ByteArray) (r:Bool) (w:World) (dr:Kd.C Kd.string w A0 l0.length l0) (dt:l0.length≤c0) (h:impl_isBody.f k l0=some r) :
 Calls Tryz.prog 69 #[.slice A0 l0.length c0] w fun e w'=>e=.returned (.bool r)∧Drawn0 w w':=by
 have cW:=zA dr
 have fH:=zA dt
 clear dr dt
 have H:(if (l0.length:Int)≤12 then ((slices_ContainsFunc_string_string_at114.f k l0).bind fun bO=>(some (!bO))) else (some false))=some r:=h
 clear h
 by_cases c2:(l0.length:Int)≤12
 rotate_left
 ·rw [if_neg c2] at H
  have c2b0:decide ((l0.length:Int)≤12)=false:=decide_eq_false c2
  have c2b1:decide (l0.length≤12)=false:=decide_eq_false zY6
  clear c2
  obtain rfl:=Option.some.inj H
  go_enter Tryz.func69,Tryz.ntmps69
  go_wp2
  go_ret
  exact ⟨by first|rfl|(simp;done)|(simp [*];done),by repeat (first|exact Drawn0.refl _|apply Drawn0.step)⟩
 rw [if_pos c2] at H
 have c2b0:decide ((l0.length:Int)≤12)=true:=decide_eq_true c2
 have c2b1:decide (l0.length≤12)=true:=decide_eq_true zY6
 clear c2
 replace H:=Option.bind_eq_some_iff.mp H
 obtain ⟨bO,bu,H⟩:=H
 try dsimp only at H
 have A3:=zA bu
 clear bu
 obtain rfl:=Option.some.inj H
 go_enter Tryz.func69,Tryz.ntmps69
 go_wp2_with (first|(go_at_call 113;(with_reducible refine (slices_ContainsFunc_string_string_at114.calls k _ _ l0  bO _ ?side1 ?side2 A3.out).mono ?_);(case side1=>exact zC cW.out);(case side2=>exact fH.out);rintro e w' ⟨rfl,⟨nd,rfl⟩⟩))
 go_ret
 exact ⟨by first|rfl|(simp;done)|(simp [*];done),by repeat (first|exact Drawn0.refl _|apply Drawn0.step)⟩
def impl_MailOk.f (k:Nat) (aa:ByteArray) (ab:ByteArray) (af:List (S24)) (ap:List ByteArray):Option (Bool):=(impl_Addr_sender.f k aa ab).bind fun dZ=>(if dZ=true then ((impl_within.f (af.length:Int) 1 4).bind fun cX=>(if cX=true then ((slices_ContainsFunc_impl_Addr_impl_Addr_at65.f k af).bind fun dU=>(if dU=true then (some false) else ((impl_distinct_impl_Addr.f af).bind fun aW=>(if aW=true then ((impl_isBody.f k ap).bind fun dx=>(some dx)) else (some false))))) else (some false))) else (some false))
set_option maxHeartbeats 8000000 in
set_option maxRecDepth 100000 in
theorem impl_MailOk.calls (k:Nat) (aa:ByteArray) (ab:ByteArray) (b9:Option Addr) (b4:Nat) (af:List (S24)) (b5:Option Addr) (b6:Nat) (ap:List ByteArray) (r:Bool) (w:World) (eX:Kd.C k24 w b9 af.length af) (eY:af.length≤b4) (eZ:Kd.C Kd.string w b5 ap.length ap) (e5:ap.length≤b6) (hG:GOK w) (h:impl_MailOk.f k aa ab af ap=some r) :
 Calls Tryz.prog 30 #[.agg #[.string aa,.string ab,.slice b9 af.length b4,.slice b5 ap.length b6]] w fun e w'=>e=.returned (.bool r)∧Below w.heap.size w w':=by
 have hu28:=Tryz.underlying28
 have hu24:=Tryz.underlying24
 have d6:=zA eX
 have fe:=zA eY
 clear eX eY
 have eP:=zA eZ
 have eQ:=zA e5
 clear eZ e5
 have HG:=zA hG
 clear hG
 have HB:=zA (Below.refl w.heap.size w)
 have H:((impl_Addr_sender.f k aa ab).bind fun dZ=>(if dZ=true then ((impl_within.f (af.length:Int) 1 4).bind fun cX=>(if cX=true then ((slices_ContainsFunc_impl_Addr_impl_Addr_at65.f k af).bind fun dU=>(if dU=true then (some false) else ((impl_distinct_impl_Addr.f af).bind fun aW=>(if aW=true then ((impl_isBody.f k ap).bind fun dx=>(some dx)) else (some false))))) else (some false))) else (some false)))=some r:=h
 clear h
 replace H:=Option.bind_eq_some_iff.mp H
 obtain ⟨dZ,bv,H⟩:=H
 try dsimp only at H
 have A2:=zA bv
 clear bv
 by_cases c3:dZ=true
 rotate_left
 ·replace c3:=Bool.eq_false_iff.mpr c3
  subst c3
  rw [if_neg zfn] at H
  obtain rfl:=Option.some.inj H
  go_enter Tryz.func30,Tryz.ntmps30
  go_wp2_with (first|((with_reducible refine zq5 (N:=1) rfl ?_);(try (refine gate_guard zY30 ?_;dsimp only));refine zE (N:=1) (cs:=#[.string aa,.string ab,.slice b9 af.length b4,.slice b5 ap.length b6]) (t:=28) ?_;intro fa hg mN hbox hb;have bF:=zA hbox;have mO:=zA (zS hg:w.heap.size≤fa);have mP:=zA (zS hg:w.heap.size≤fa);replace HB:=zA (zq0 zB hb);clear hb hbox hg;obtain ⟨_,_,_,_⟩:=zc4 bF.out;obtain ⟨_,_,_,_⟩:=zf4 bF.out)|((with_reducible refine zq2 (f:=66) rfl ?_);refine zq4 (some 6) rfl rfl Tryz.func66 zY2 rfl #[.agg #[.string aa,.string ab]] rfl zY0 ?_;(with_reducible refine (impl_Addr_sender.calls k aa ab false _ ?side1 A2.out).mono ?_);(case side1=>exact zg);rintro e sS ⟨rfl,hb⟩;refine ⟨_,rfl,?_⟩;replace bF:=zA (zq1 (zK bF.out) hb);replace HB:=zA (zq0 zB hb);clear hb))
  go_ret
  exact ⟨zT,zB⟩
 subst c3
 rw [if_pos rfl] at H
 replace H:=Option.bind_eq_some_iff.mp H
 obtain ⟨cX,ci,H⟩:=H
 try dsimp only at H
 have A4:=zA ci
 clear ci
 by_cases c5:cX=true
 rotate_left
 ·replace c5:=Bool.eq_false_iff.mpr c5
  subst c5
  rw [if_neg zfn] at H
  obtain rfl:=Option.some.inj H
  go_enter Tryz.func30,Tryz.ntmps30
  go_wp2_with (first|((with_reducible refine zq5 (N:=1) rfl ?_);(try (refine gate_guard zY30 ?_;dsimp only));refine zE (N:=1) (cs:=#[.string aa,.string ab,.slice b9 af.length b4,.slice b5 ap.length b6]) (t:=28) ?_;intro fa hg mC hbox hb;have bF:=zA hbox;have mO:=zA (zS hg:w.heap.size≤fa);have mP:=zA (zS hg:w.heap.size≤fa);replace HB:=zA (zq0 zB hb);clear hb hbox hg;obtain ⟨_,_,_,_⟩:=zc4 bF.out;obtain ⟨_,_,_,_⟩:=zf4 bF.out)|((with_reducible refine zq2 (f:=66) rfl ?_);refine zq4 (some 6) rfl rfl Tryz.func66 zY2 rfl #[.agg #[.string aa,.string ab]] rfl zY0 ?_;(with_reducible refine (impl_Addr_sender.calls k aa ab true _ ?side1 A2.out).mono ?_);(case side1=>exact zg);rintro e eR ⟨rfl,hb⟩;refine ⟨_,rfl,?_⟩;replace bF:=zA (zq1 (zK bF.out) hb);replace HB:=zA (zq0 zB hb);clear hb;obtain ⟨_,_,_,_⟩:=zc4 bF.out;obtain ⟨_,_,_,_⟩:=zf4 bF.out)|(go_at_call 27;(with_reducible refine (impl_within.calls (af.length:Int) 1 4 false _ A4.out).mono ?_);rintro e w' ⟨rfl,⟨nd,rfl⟩⟩))
  go_ret
  exact ⟨zT,zB⟩
 subst c5
 rw [if_pos rfl] at H
 replace H:=Option.bind_eq_some_iff.mp H
 obtain ⟨dU,es,H⟩:=H
 try dsimp only at H
 have A6:=zA es
 clear es
 by_cases c7:dU=true
 ·subst c7
  rw [if_pos rfl] at H
  obtain rfl:=Option.some.inj H
  go_enter Tryz.func30,Tryz.ntmps30
  go_wp2_with (first|((with_reducible refine zq5 (N:=1) rfl ?_);(try (refine gate_guard zY30 ?_;dsimp only));refine zE (N:=1) (cs:=#[.string aa,.string ab,.slice b9 af.length b4,.slice b5 ap.length b6]) (t:=28) ?_;intro fa hg w8 hbox hb;have bF:=zA hbox;have mO:=zA (zS hg:w.heap.size≤fa);have mP:=zA (zS hg:w.heap.size≤fa);replace HB:=zA (zq0 zB hb);clear hb hbox hg;obtain ⟨_,_,_,_⟩:=zc4 bF.out;obtain ⟨_,_,_,_⟩:=zf4 bF.out)|((with_reducible refine zq2 (f:=66) rfl ?_);refine zq4 (some 6) rfl rfl Tryz.func66 zY2 rfl #[.agg #[.string aa,.string ab]] rfl zY0 ?_;(with_reducible refine (impl_Addr_sender.calls k aa ab true _ ?side1 A2.out).mono ?_);(case side1=>exact zg);rintro e cv ⟨rfl,hb⟩;refine ⟨_,rfl,?_⟩;replace bF:=zA (zq1 (zK bF.out) hb);replace HB:=zA (zq0 zB hb);clear hb;obtain ⟨_,_,_,_⟩:=zc4 bF.out;obtain ⟨_,_,_,_⟩:=zf4 bF.out)|(go_at_call 27;(with_reducible refine (impl_within.calls (af.length:Int) 1 4 true _ A4.out).mono ?_);rintro e w' ⟨rfl,⟨nd,rfl⟩⟩)|(go_at_call 67;(with_reducible refine (slices_ContainsFunc_impl_Addr_impl_Addr_at65.calls k _ _ af  true _ ?side1 ?side2 ?side3 A6.out).mono ?_);(case side1=>exact zC (Kd.z0 d6.out zB));(case side2=>exact fe.out);(case side3=>exact zg);rintro e gx ⟨rfl,hb⟩;replace bF:=zA (zq1 (zK bF.out) hb);replace HB:=zA (zq0 zB hb);clear hb))
  go_ret
  exact ⟨zT,zB⟩
 replace c7:=Bool.eq_false_iff.mpr c7
 subst c7
 rw [if_neg zfn] at H
 replace H:=Option.bind_eq_some_iff.mp H
 obtain ⟨aW,y8,H⟩:=H
 try dsimp only at H
 have y9:=zA y8
 clear y8
 by_cases bB:aW=true
 rotate_left
 ·replace bB:=Bool.eq_false_iff.mpr bB
  subst bB
  rw [if_neg zfn] at H
  obtain rfl:=Option.some.inj H
  go_enter Tryz.func30,Tryz.ntmps30
  go_wp2_with (first|((with_reducible refine zq5 (N:=1) rfl ?_);(try (refine gate_guard zY30 ?_;dsimp only));refine zE (N:=1) (cs:=#[.string aa,.string ab,.slice b9 af.length b4,.slice b5 ap.length b6]) (t:=28) ?_;intro fa hg qi hbox hb;have bF:=zA hbox;have mO:=zA (zS hg:w.heap.size≤fa);have mP:=zA (zS hg:w.heap.size≤fa);replace HB:=zA (zq0 zB hb);clear hb hbox hg;obtain ⟨_,_,_,_⟩:=zc4 bF.out;obtain ⟨_,_,_,_⟩:=zf4 bF.out)|((with_reducible refine zq2 (f:=66) rfl ?_);refine zq4 (some 6) rfl rfl Tryz.func66 zY2 rfl #[.agg #[.string aa,.string ab]] rfl zY0 ?_;(with_reducible refine (impl_Addr_sender.calls k aa ab true _ ?side1 A2.out).mono ?_);(case side1=>exact zg);rintro e za ⟨rfl,hb⟩;refine ⟨_,rfl,?_⟩;replace bF:=zA (zq1 (zK bF.out) hb);replace HB:=zA (zq0 zB hb);clear hb;obtain ⟨_,_,_,_⟩:=zc4 bF.out;obtain ⟨_,_,_,_⟩:=zf4 bF.out)|(go_at_call 27;(with_reducible refine (impl_within.calls (af.length:Int) 1 4 true _ A4.out).mono ?_);rintro e w' ⟨rfl,⟨nd,rfl⟩⟩)|(go_at_call 67;(with_reducible refine (slices_ContainsFunc_impl_Addr_impl_Addr_at65.calls k _ _ af  false _ ?side1 ?side2 ?side3 A6.out).mono ?_);(case side1=>exact zC (Kd.z0 d6.out zB));(case side2=>exact fe.out);(case side3=>exact zg);rintro e gb ⟨rfl,hb⟩;replace bF:=zA (zq1 (zK bF.out) hb);replace HB:=zA (zq0 zB hb);clear hb;obtain ⟨_,_,_,_⟩:=zc4 bF.out;obtain ⟨_,_,_,_⟩:=zf4 bF.out)|(go_at_call 68;(with_reducible refine (impl_distinct_impl_Addr.calls _ _ af false _ ?side1 ?side2 y9.out).mono ?_);(case side1=>exact zC (Kd.z0 d6.out HB.out));(case side2=>exact fe.out);rintro e uo ⟨rfl,hb⟩;replace bF:=zA (zq1 (zK bF.out) hb);replace HB:=zA (zq0 zB hb);clear hb))
  go_ret
  exact ⟨zT,zB⟩
 subst bB
 rw [if_pos rfl] at H
 replace H:=Option.bind_eq_some_iff.mp H
 obtain ⟨dx,kM,H⟩:=H
 try dsimp only at H
 have lU:=zA kM
 clear kM
 obtain rfl:=Option.some.inj H
 go_enter Tryz.func30,Tryz.ntmps30
 go_wp2_with (first|((with_reducible refine zq5 (N:=1) rfl ?_);(try (refine gate_guard zY30 ?_;dsimp only));refine zE (N:=1) (cs:=#[.string aa,.string ab,.slice b9 af.length b4,.slice b5 ap.length b6]) (t:=28) ?_;intro fa hg nq hbox hb;have bF:=zA hbox;have mO:=zA (zS hg:w.heap.size≤fa);have mP:=zA (zS hg:w.heap.size≤fa);replace HB:=zA (zq0 zB hb);clear hb hbox hg;obtain ⟨_,_,_,_⟩:=zc4 bF.out;obtain ⟨_,_,_,_⟩:=zf4 bF.out)|((with_reducible refine zq2 (f:=66) rfl ?_);refine zq4 (some 6) rfl rfl Tryz.func66 zY2 rfl #[.agg #[.string aa,.string ab]] rfl zY0 ?_;(with_reducible refine (impl_Addr_sender.calls k aa ab true _ ?side1 A2.out).mono ?_);(case side1=>exact zg);rintro e jD ⟨rfl,hb⟩;refine ⟨_,rfl,?_⟩;replace bF:=zA (zq1 (zK bF.out) hb);replace HB:=zA (zq0 zB hb);clear hb;obtain ⟨_,_,_,_⟩:=zc4 bF.out;obtain ⟨_,_,_,_⟩:=zf4 bF.out)|(go_at_call 27;(with_reducible refine (impl_within.calls (af.length:Int) 1 4 true _ A4.out).mono ?_);rintro e w' ⟨rfl,⟨nd,rfl⟩⟩)|(go_at_call 67;(with_reducible refine (slices_ContainsFunc_impl_Addr_impl_Addr_at65.calls k _ _ af  false _ ?side1 ?side2 ?side3 A6.out).mono ?_);(case side1=>exact zC (Kd.z0 d6.out zB));(case side2=>exact fe.out);(case side3=>exact zg);rintro e mD ⟨rfl,hb⟩;replace bF:=zA (zq1 (zK bF.out) hb);replace HB:=zA (zq0 zB hb);clear hb;obtain ⟨_,_,_,_⟩:=zc4 bF.out;obtain ⟨_,_,_,_⟩:=zf4 bF.out)|(go_at_call 68;(with_reducible refine (impl_distinct_impl_Addr.calls _ _ af true _ ?side1 ?side2 y9.out).mono ?_);(case side1=>exact zC (Kd.z0 d6.out HB.out));(case side2=>exact fe.out);rintro e qm ⟨rfl,hb⟩;replace bF:=zA (zq1 (zK bF.out) hb);replace HB:=zA (zq0 zB hb);clear hb;obtain ⟨_,_,_,_⟩:=zc4 bF.out;obtain ⟨_,_,_,_⟩:=zf4 bF.out)|(go_at_call 69;(with_reducible refine (impl_isBody.calls k _ _ ap dx _ ?side1 ?side2 lU.out).mono ?_);(case side1=>exact zC (Kd.z0 eP.out HB.out));(case side2=>exact eQ.out);rintro e w' ⟨rfl,⟨nd,rfl⟩⟩))
 go_ret
 exact ⟨zT,zB⟩
def impl_isTime.f (a0:Int):Option (Bool):=(impl_within.f a0 0 9999).bind fun bP=>(some bP)
set_option maxHeartbeats 8000000 in
set_option maxRecDepth 100000 in
theorem impl_isTime.calls (a0:Int) (r:Bool) (w:World) (h:impl_isTime.f a0=some r) :
 Calls Tryz.prog 31 #[.int .i64 a0] w fun e w'=>e=.returned (.bool r)∧Drawn0 w w':=by
 have H:((impl_within.f a0 0 9999).bind fun bP=>(some bP))=some r:=h
 clear h
 replace H:=Option.bind_eq_some_iff.mp H
 obtain ⟨bP,bv,H⟩:=H
 try dsimp only at H
 have A2:=zA bv
 clear bv
 obtain rfl:=Option.some.inj H
 go_enter Tryz.func31,Tryz.ntmps31
 go_wp2_with (first|((with_reducible refine zq2 (f:=27) rfl ?_);refine zq4 (some 4) rfl rfl Tryz.func27 zY2 rfl #[.int .i64 a0,.int .i64 0,.int .i64 9999] rfl zY0 ?_;(with_reducible refine (impl_within.calls a0 0 9999 bP _ A2.out).mono ?_);rintro e w' ⟨rfl,⟨nd,rfl⟩⟩;refine ⟨_,rfl,?_⟩))
 go_ret
 exact ⟨by first|rfl|(simp;done)|(simp [*];done),by repeat (first|exact Drawn0.refl _|apply Drawn0.step)⟩
end Go.Proofs.YtjdpdkdhfnpcgaaGreatDoor.Q
