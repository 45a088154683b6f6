/- Of a text of ours what this claim needs. -/
import Derived.Test.YtjdpdkdhfnpcgaaGreatDoorZzFnExactNoteGetSQ0
import Derived.Test.YtjdpdkdhfnpcgaaGreatDoorZzFnExactNoteGetSAu
import Derived.Test.YtjdpdkdhfnpcgaaGreatDoorZzFnExactNoteGetSQ7
import Derived.Test.YtjdpdkdhfnpcgaaGreatDoorZzFnExactNoteGetSQ10
import Derived.Test.YtjdpdkdhfnpcgaaGreatDoorZzFnExactNoteGetSQ11
import Derived.Test.YtjdpdkdhfnpcgaaGreatDoorZzFnExactNoteGetSQ15
import Derived.Test.YtjdpdkdhfnpcgaaGreatDoorZzFnExactNoteGetSQ24
import Derived.Test.YtjdpdkdhfnpcgaaGreatDoorZzFnExactNoteGetSHSplit
namespace Go.Proofs.YtjdpdkdhfnpcgaaGreatDoor.Q
open Go.RowKit Go.Proofs.YtjdpdkdhfnpcgaaGreatDoorW.PrintWords Go.Proofs.YtjdpdkdhfnpcgaaGreatDoorW.PrintLast Go.Proofs.YtjdpdkdhfnpcgaaGreatDoorW.PrintMore
attribute [local go_sem] max2_int min2_int max_two min_two max_three min_three max_four min_four
set_option linter.unusedVariables false
set_option linter.unusedSimpArgs false
def spec_NoteGet.f (k:Nat) (a0:ByteArray):Option (Int × Int × ByteArray × ByteArray × Int × ByteArray × ByteArray × (List (S24)) × List ByteArray × Bool):=if (a0.size:Int) > 820 then (some (0,0,(⟨#[]⟩:ByteArray),(⟨#[]⟩:ByteArray),0,(⟨#[]⟩:ByteArray),(⟨#[]⟩:ByteArray),([]:List (S24)),([]:List ByteArray),false)) else ((spec_l6Get.f k a0).bind fun bX=>((spec_l6Ok.f k bX.1 bX.2.1 bX.2.2.1 bX.2.2.2.1 bX.2.2.2.2.1 bX.2.2.2.2.2.1 bX.2.2.2.2.2.2.1 bX.2.2.2.2.2.2.2.1 bX.2.2.2.2.2.2.2.2).bind fun po=>(if po=true then ((spec_l6Body.f k bX.1 bX.2.1 bX.2.2.1 bX.2.2.2.1 bX.2.2.2.2.1 bX.2.2.2.2.2.1 bX.2.2.2.2.2.2.1 bX.2.2.2.2.2.2.2.1 bX.2.2.2.2.2.2.2.2).bind fun iG=>(if iG.toList=a0.toList then (some (bX.1,bX.2.1,bX.2.2.1,bX.2.2.2.1,bX.2.2.2.2.1,bX.2.2.2.2.2.1,bX.2.2.2.2.2.2.1,bX.2.2.2.2.2.2.2.1,bX.2.2.2.2.2.2.2.2,true)) else (some (0,0,(⟨#[]⟩:ByteArray),(⟨#[]⟩:ByteArray),0,(⟨#[]⟩:ByteArray),(⟨#[]⟩:ByteArray),([]:List (S24)),([]:List ByteArray),false)))) else (some (0,0,(⟨#[]⟩:ByteArray),(⟨#[]⟩:ByteArray),0,(⟨#[]⟩:ByteArray),(⟨#[]⟩:ByteArray),([]:List (S24)),([]:List ByteArray),false)))))
set_option maxHeartbeats 8000000 in
set_option maxRecDepth 100000 in
theorem spec_NoteGet.calls (k:Nat) (a0:ByteArray) (r1:Int) (r2:Int) (r3:ByteArray) (r4:ByteArray) (r5:Int) (r6:ByteArray) (r7:ByteArray) (r8:List (S24)) (r9:List ByteArray) (iH:Bool) (w:World) (h:spec_NoteGet.f k a0=some (r1,r2,r3,r4,r5,r6,r7,r8,r9,iH)) :
 Calls Tryz.prog 14 #[.string a0] w fun e w'=>∃ kX kY:Value,e=.returned (.tuple #[.agg #[.int .i64 r1,.int .i64 r2,.string r3,.string r4,.int .i64 r5,.string r6,.string r7,kX,kY],.bool iH])∧Kd.R k24 24 w' w.heap.size (fun _=>True) kX r8∧Kd.R Kd.string 9 w' w.heap.size (fun _=>True) kY r9∧Below w.heap.size w w':=by
 have hu30:=Tryz.underlying30
 have HB:=zA (Below.refl w.heap.size w)
 have H:(if (a0.size:Int) > 820 then (some (0,0,bz0,bz0,0,bz0,bz0,([]:List (S24)),([]:List ByteArray),false)) else ((spec_l6Get.f k a0).bind fun bX=>((spec_l6Ok.f k bX.1 bX.2.1 bX.2.2.1 bX.2.2.2.1 bX.2.2.2.2.1 bX.2.2.2.2.2.1 bX.2.2.2.2.2.2.1 bX.2.2.2.2.2.2.2.1 bX.2.2.2.2.2.2.2.2).bind fun po=>(if po=true then ((spec_l6Body.f k bX.1 bX.2.1 bX.2.2.1 bX.2.2.2.1 bX.2.2.2.2.1 bX.2.2.2.2.2.1 bX.2.2.2.2.2.2.1 bX.2.2.2.2.2.2.2.1 bX.2.2.2.2.2.2.2.2).bind fun iG=>(if iG.toList=a0.toList then (some (bX.1,bX.2.1,bX.2.2.1,bX.2.2.2.1,bX.2.2.2.2.1,bX.2.2.2.2.2.1,bX.2.2.2.2.2.2.1,bX.2.2.2.2.2.2.2.1,bX.2.2.2.2.2.2.2.2,true)) else (some (0,0,bz0,bz0,0,bz0,bz0,([]:List (S24)),([]:List ByteArray),false)))) else (some (0,0,bz0,bz0,0,bz0,bz0,([]:List (S24)),([]:List ByteArray),false))))))=some (r1,r2,r3,r4,r5,r6,r7,r8,r9,iH):=h
 clear h
 by_cases c2:(a0.size:Int) > 820
 ·rw [if_pos c2] at H
  have c2b0:decide (820 < (a0.size:Int))=true:=decide_eq_true c2
  have c2b1:decide (820 < a0.size)=true:=decide_eq_true zY6
  clear c2
  simp only [Option.some.injEq,Prod.mk.injEq] at H
  obtain ⟨rfl,rfl,rfl,rfl,rfl,rfl,rfl,rfl,rfl,rfl⟩:=H
  go_enter Tryz.func14,Tryz.ntmps14
  go_wp2_with (first|((with_reducible refine zq5 (N:=2) rfl ?_);refine zE (N:=2) (cs:=#[.int .i64 0,.int .i64 0,.string bz0,.string bz0,.int .i64 0,.string bz0,.string bz0,.slice none 0 0,.slice none 0 0]) (t:=30) ?_;intro ef hg w3 hbox hb;have cx:=zA hbox;have wE:=zA (zS hg:w.heap.size≤ef);have wF:=zA (zS hg:w.heap.size≤ef);replace HB:=zA (zq0 zB hb);clear hb hbox hg;obtain ⟨_,_,_,_,_,_,_,_,_⟩:=zc9 cx.out;obtain ⟨_,_,_,_,_,_,_,_,_⟩:=zf9 cx.out))
  refine bodyPost_ret (zq13 rfl _ _ ef 30 #[.int .i64 0,.int .i64 0,.string bz0,.string bz0,.int .i64 0,.string bz0,.string bz0,.slice none 0 0,.slice none 0 0] (0,0) _ rfl (zG cx.out) Tryz.underlying30 rfl zY2) rfl ?_
  exact ⟨_,_,zT,zNil,zNil,zB⟩
 rw [if_neg c2] at H
 have c2b0:decide (820 < (a0.size:Int))=false:=decide_eq_false c2
 have c2b1:decide (820 < a0.size)=false:=decide_eq_false zY6
 clear c2
 replace H:=Option.bind_eq_some_iff.mp H
 obtain ⟨⟨di,dj,dk,dl,dm,dn,dp,cP,cQ⟩,dS,H⟩:=H
 try dsimp only at H
 have A5:=zA dS
 clear dS
 replace H:=Option.bind_eq_some_iff.mp H
 obtain ⟨po,es,H⟩:=H
 try dsimp only at H
 have A6:=zA es
 clear es
 by_cases c7:po=true
 rotate_left
 ·replace c7:=Bool.eq_false_iff.mpr c7
  subst c7
  rw [if_neg zfn] at H
  simp only [Option.some.injEq,Prod.mk.injEq] at H
  obtain ⟨rfl,rfl,rfl,rfl,rfl,rfl,rfl,rfl,rfl,rfl⟩:=H
  go_enter Tryz.func14,Tryz.ntmps14
  go_wp2_with (first|((with_reducible refine zq5 (N:=2) rfl ?_);refine zE (N:=2) (cs:=#[.int .i64 0,.int .i64 0,.string bz0,.string bz0,.int .i64 0,.string bz0,.string bz0,.slice none 0 0,.slice none 0 0]) (t:=30) ?_;intro ef hg eR hbox hb;have cx:=zA hbox;have wE:=zA (zS hg:w.heap.size≤ef);have wF:=zA (zS hg:w.heap.size≤ef);replace HB:=zA (zq0 zB hb);clear hb hbox hg)|((with_reducible refine zq2 (f:=39) rfl ?_);refine zq4 (some 10) rfl rfl Tryz.func39 zY2 rfl #[.string a0] rfl zY0 ?_;(with_reducible refine (spec_l6Get.calls k a0 di dj dk dl dm dn dp cP cQ _ A5.out).mono ?_);rintro e n2 ⟨AF,AG,rfl,ar,cC,hb⟩;refine ⟨_,rfl,?_⟩;have dh:=zA (Kd.z6 ar (zq7 zB));have dq:=zA (Kd.z6 cC (zq7 zB));replace cx:=zA (zq1 (zK cx.out) hb);replace HB:=zA (zq0 zB hb);clear hb ar cC)|((with_reducible refine zq5 (N:=4) rfl ?_);refine zE (N:=4) (cs:=#[.int .i64 0,.int .i64 0,.string bz0,.string bz0,.int .i64 0,.string bz0,.string bz0,.slice none 0 0,.slice none 0 0]) (t:=30) ?_;intro dg hg mN hbox hb;replace dh:=zA (Kd.z2 (zVR dh.out) hb);replace dq:=zA (Kd.z2 (zVR dq.out) hb);have cE:=zA hbox;have AH:=zA (zS hg:w.heap.size≤dg);have AI:=zA (zS hg:w.heap.size≤dg);replace HB:=zA (zq0 zB hb);have pp:=zA (zNlt hg (zK cx.out):ef≠dg);have pq:=zA (zNgt hg (zK cx.out):dg≠ef);replace cx:=zA (zq1 (zK cx.out) hb);clear hb hbox hg;have zk:=pq.out;have zl:=pp.out;obtain ⟨_,_,_,_,_,_,_,_,_⟩:=zc9 cE.out;obtain ⟨_,_,_,_,_,_,_,_,_⟩:=zf9 cE.out;obtain ⟨jp,iT,wG⟩:=Kd.z9 dh.out;subst wG;obtain ⟨jq,iU,vz⟩:=Kd.z9 dq.out;subst vz)|((with_reducible refine zq2 (f:=25) rfl ?_);refine zq4 (some 12) rfl rfl Tryz.func25 zY2 rfl #[.agg #[.int .i64 di,.int .i64 dj,.string dk,.string dl,.int .i64 dm,.string dn,.string dp,.slice jp cP.length iT,.slice jq cQ.length iU]] rfl zY0 ?_;(with_reducible refine (spec_l6Ok.calls k di dj dk dl dm dn dp _ _ cP _ _ cQ false _ ?side1 ?side2 ?side3 ?side4 A6.out).mono ?_);(case side1=>refine (Kd.z8 (e:=24) (base:=w.heap.size) (ok:=fun k_=>True) (n:=cP.length) (c:=iT) ?_).2.2;exact (by exact zr (Kd.z7 (zR9 dg (Kd.z10 dh.out cE.out zY4) (.int .i64 di) (.int .i64 dj) (.string dk) (.string dl) (.int .i64 dm) (.string dn) (.string dp) (.slice jp cP.length iT) (.slice jq cQ.length iU)) (fun _ h_=>h_.1))));(case side2=>exact (Kd.z8 dh.out).2.1);(case side3=>refine (Kd.z8 (e:=9) (base:=w.heap.size) (ok:=fun k_=>True) (n:=cQ.length) (c:=iU) ?_).2.2;exact (by exact zr (Kd.z7 (zR9 dg (Kd.z10 dq.out cE.out zY4) (.int .i64 di) (.int .i64 dj) (.string dk) (.string dl) (.int .i64 dm) (.string dn) (.string dp) (.slice jp cP.length iT) (.slice jq cQ.length iU)) (fun _ h_=>h_.1))));(case side4=>exact (Kd.z8 dq.out).2.1);rintro e qh ⟨rfl,hb⟩;refine ⟨_,rfl,?_⟩;replace dh:=zA (Kd.z2 (by exact zr (Kd.z7 (zR9 dg (Kd.z10 dh.out cE.out zY4) (.int .i64 di) (.int .i64 dj) (.string dk) (.string dl) (.int .i64 dm) (.string dn) (.string dp) (.slice jp cP.length iT) (.slice jq cQ.length iU)) (fun _ h_=>h_.1))) hb);replace dq:=zA (Kd.z2 (by exact zr (Kd.z7 (zR9 dg (Kd.z10 dq.out cE.out zY4) (.int .i64 di) (.int .i64 dj) (.string dk) (.string dl) (.int .i64 dm) (.string dn) (.string dp) (.slice jp cP.length iT) (.slice jq cQ.length iU)) (fun _ h_=>h_.1))) hb);replace cx:=zA (zq1 (g:=ef) (o:=.cells #[.int .i64 0,.int .i64 0,.string bz0,.string bz0,.int .i64 0,.string bz0,.string bz0,.slice none 0 0,.slice none 0 0] 30 (0,0)) (zG cx.out) hb);replace cE:=zA (zq1 (g:=dg) (o:=.cells #[.int .i64 di,.int .i64 dj,.string dk,.string dl,.int .i64 dm,.string dn,.string dp,.slice jp cP.length iT,.slice jq cQ.length iU] 30 (0,0)) (zG cE.out) hb);replace HB:=zA (zq0 zB hb);clear hb;obtain ⟨_,_,_,_,_,_,_,_,_⟩:=zc9 cx.out;obtain ⟨_,_,_,_,_,_,_,_,_⟩:=zf9 cx.out))
  refine bodyPost_ret (zq13 rfl _ _ ef 30 #[.int .i64 0,.int .i64 0,.string bz0,.string bz0,.int .i64 0,.string bz0,.string bz0,.slice none 0 0,.slice none 0 0] (0,0) _ rfl (zG cx.out) Tryz.underlying30 rfl zY2) rfl ?_
  exact ⟨_,_,zT,zNil,zNil,zB⟩
 subst c7
 rw [if_pos rfl] at H
 replace H:=Option.bind_eq_some_iff.mp H
 obtain ⟨iG,e6,H⟩:=H
 try dsimp only at H
 have A8:=zA e6
 clear e6
 by_cases c9:iG.toList=a0.toList
 rotate_left
 ·rw [if_neg c9] at H
  have c9b0:(iG.toList==a0.toList)=false:=beq_eq_false_iff_ne.mpr c9
  have c9b1:(iG.toList != a0.toList)=true:=bne_iff_ne.mpr c9
  simp only [Option.some.injEq,Prod.mk.injEq] at H
  obtain ⟨rfl,rfl,rfl,rfl,rfl,rfl,rfl,rfl,rfl,rfl⟩:=H
  go_enter Tryz.func14,Tryz.ntmps14
  go_wp2_with (first|((with_reducible refine zq5 (N:=2) rfl ?_);refine zE (N:=2) (cs:=#[.int .i64 0,.int .i64 0,.string bz0,.string bz0,.int .i64 0,.string bz0,.string bz0,.slice none 0 0,.slice none 0 0]) (t:=30) ?_;intro ef hg qm hbox hb;have cx:=zA hbox;have wE:=zA (zS hg:w.heap.size≤ef);have wF:=zA (zS hg:w.heap.size≤ef);replace HB:=zA (zq0 zB hb);clear hb hbox hg)|((with_reducible refine zq2 (f:=39) rfl ?_);refine zq4 (some 10) rfl rfl Tryz.func39 zY2 rfl #[.string a0] rfl zY0 ?_;(with_reducible refine (spec_l6Get.calls k a0 di dj dk dl dm dn dp cP cQ _ A5.out).mono ?_);rintro e kI ⟨AF,AG,rfl,ar,cC,hb⟩;refine ⟨_,rfl,?_⟩;have dh:=zA (Kd.z6 ar (zq7 zB));have dq:=zA (Kd.z6 cC (zq7 zB));replace cx:=zA (zq1 (zK cx.out) hb);replace HB:=zA (zq0 zB hb);clear hb ar cC)|((with_reducible refine zq5 (N:=4) rfl ?_);refine zE (N:=4) (cs:=#[.int .i64 0,.int .i64 0,.string bz0,.string bz0,.int .i64 0,.string bz0,.string bz0,.slice none 0 0,.slice none 0 0]) (t:=30) ?_;intro dg hg qi hbox hb;replace dh:=zA (Kd.z2 (zVR dh.out) hb);replace dq:=zA (Kd.z2 (zVR dq.out) hb);have cE:=zA hbox;have AH:=zA (zS hg:w.heap.size≤dg);have AI:=zA (zS hg:w.heap.size≤dg);replace HB:=zA (zq0 zB hb);have pp:=zA (zNlt hg (zK cx.out):ef≠dg);have pq:=zA (zNgt hg (zK cx.out):dg≠ef);replace cx:=zA (zq1 (zK cx.out) hb);clear hb hbox hg;have ND:=pq.out;have NE:=pp.out;obtain ⟨_,_,_,_,_,_,_,_,_⟩:=zc9 cE.out;obtain ⟨_,_,_,_,_,_,_,_,_⟩:=zf9 cE.out;obtain ⟨kj,jr,GV⟩:=Kd.z9 dh.out;subst GV;obtain ⟨fw,eW,oE⟩:=Kd.z9 dq.out;subst oE)|((with_reducible refine zq2 (f:=25) rfl ?_);refine zq4 (some 12) rfl rfl Tryz.func25 zY2 rfl #[.agg #[.int .i64 di,.int .i64 dj,.string dk,.string dl,.int .i64 dm,.string dn,.string dp,.slice kj cP.length jr,.slice fw cQ.length eW]] rfl zY0 ?_;(with_reducible refine (spec_l6Ok.calls k di dj dk dl dm dn dp _ _ cP _ _ cQ true _ ?side1 ?side2 ?side3 ?side4 A6.out).mono ?_);(case side1=>refine (Kd.z8 (e:=24) (base:=w.heap.size) (ok:=fun k_=>True) (n:=cP.length) (c:=jr) ?_).2.2;exact (by exact zr (Kd.z7 (zR9 dg (Kd.z10 dh.out cE.out zY4) (.int .i64 di) (.int .i64 dj) (.string dk) (.string dl) (.int .i64 dm) (.string dn) (.string dp) (.slice kj cP.length jr) (.slice fw cQ.length eW)) (fun _ h_=>h_.1))));(case side2=>exact (Kd.z8 dh.out).2.1);(case side3=>refine (Kd.z8 (e:=9) (base:=w.heap.size) (ok:=fun k_=>True) (n:=cQ.length) (c:=eW) ?_).2.2;exact (by exact zr (Kd.z7 (zR9 dg (Kd.z10 dq.out cE.out zY4) (.int .i64 di) (.int .i64 dj) (.string dk) (.string dl) (.int .i64 dm) (.string dn) (.string dp) (.slice kj cP.length jr) (.slice fw cQ.length eW)) (fun _ h_=>h_.1))));(case side4=>exact (Kd.z8 dq.out).2.1);rintro e sT ⟨rfl,hb⟩;refine ⟨_,rfl,?_⟩;replace dh:=zA (Kd.z2 (by exact zr (Kd.z7 (zR9 dg (Kd.z10 dh.out cE.out zY4) (.int .i64 di) (.int .i64 dj) (.string dk) (.string dl) (.int .i64 dm) (.string dn) (.string dp) (.slice kj cP.length jr) (.slice fw cQ.length eW)) (fun _ h_=>h_.1))) hb);replace dq:=zA (Kd.z2 (by exact zr (Kd.z7 (zR9 dg (Kd.z10 dq.out cE.out zY4) (.int .i64 di) (.int .i64 dj) (.string dk) (.string dl) (.int .i64 dm) (.string dn) (.string dp) (.slice kj cP.length jr) (.slice fw cQ.length eW)) (fun _ h_=>h_.1))) hb);replace cx:=zA (zq1 (g:=ef) (o:=.cells #[.int .i64 0,.int .i64 0,.string bz0,.string bz0,.int .i64 0,.string bz0,.string bz0,.slice none 0 0,.slice none 0 0] 30 (0,0)) (zG cx.out) hb);replace cE:=zA (zq1 (g:=dg) (o:=.cells #[.int .i64 di,.int .i64 dj,.string dk,.string dl,.int .i64 dm,.string dn,.string dp,.slice kj cP.length jr,.slice fw cQ.length eW] 30 (0,0)) (zG cE.out) hb);replace HB:=zA (zq0 zB hb);clear hb;obtain ⟨_,_,_,_,_,_,_,_,_⟩:=zc9 cE.out;obtain ⟨_,_,_,_,_,_,_,_,_⟩:=zf9 cE.out)|(go_at_call 26;(with_reducible refine (spec_l6Body.calls k di dj dk dl dm dn dp _ _ cP _ _ cQ iG _ ?side1 ?side2 ?side3 ?side4 A8.out).mono ?_);(case side1=>exact zC (Kd.z8 dh.out).2.2);(case side2=>exact (Kd.z8 dh.out).2.1);(case side3=>exact zC (Kd.z8 dq.out).2.2);(case side4=>exact (Kd.z8 dq.out).2.1);rintro e mC ⟨rfl,hb⟩;replace dh:=zA (Kd.z2 (zVR dh.out) hb);replace dq:=zA (Kd.z2 (zVR dq.out) hb);replace cx:=zA (zq1 (zK cx.out) hb);replace cE:=zA (zq1 (zK cE.out) hb);replace HB:=zA (zq0 zB hb);clear hb;obtain ⟨_,_,_,_,_,_,_,_,_⟩:=zc9 cx.out;obtain ⟨_,_,_,_,_,_,_,_,_⟩:=zf9 cx.out))
  refine bodyPost_ret (zq13 rfl _ _ ef 30 #[.int .i64 0,.int .i64 0,.string bz0,.string bz0,.int .i64 0,.string bz0,.string bz0,.slice none 0 0,.slice none 0 0] (0,0) _ rfl (zG cx.out) Tryz.underlying30 rfl zY2) rfl ?_
  exact ⟨_,_,zT,zNil,zNil,zB⟩
 rw [if_pos c9] at H
 have c9b0:(iG.toList==a0.toList)=true:=beq_iff_eq.mpr c9
 have c9b1:(iG.toList != a0.toList)=false:=bne_eq_false_iff_eq.mpr c9
 clear c9
 simp only [Option.some.injEq,Prod.mk.injEq] at H
 obtain ⟨rfl,rfl,rfl,rfl,rfl,rfl,rfl,rfl,rfl,rfl⟩:=H
 go_enter Tryz.func14,Tryz.ntmps14
 go_wp2_with (first|((with_reducible refine zq5 (N:=2) rfl ?_);refine zE (N:=2) (cs:=#[.int .i64 0,.int .i64 0,.string bz0,.string bz0,.int .i64 0,.string bz0,.string bz0,.slice none 0 0,.slice none 0 0]) (t:=30) ?_;intro ef hg cv hbox hb;have cx:=zA hbox;have wE:=zA (zS hg:w.heap.size≤ef);have wF:=zA (zS hg:w.heap.size≤ef);replace HB:=zA (zq0 zB hb);clear hb hbox hg)|((with_reducible refine zq2 (f:=39) rfl ?_);refine zq4 (some 10) rfl rfl Tryz.func39 zY2 rfl #[.string a0] rfl zY0 ?_;(with_reducible refine (spec_l6Get.calls k a0 di dj dk dl dm dn dp cP cQ _ A5.out).mono ?_);rintro e gv ⟨AF,AG,rfl,ar,cC,hb⟩;refine ⟨_,rfl,?_⟩;have dh:=zA (Kd.z6 ar (zq7 zB));have dq:=zA (Kd.z6 cC (zq7 zB));replace cx:=zA (zq1 (zK cx.out) hb);replace HB:=zA (zq0 zB hb);clear hb ar cC)|((with_reducible refine zq5 (N:=4) rfl ?_);refine zE (N:=4) (cs:=#[.int .i64 0,.int .i64 0,.string bz0,.string bz0,.int .i64 0,.string bz0,.string bz0,.slice none 0 0,.slice none 0 0]) (t:=30) ?_;intro dg hg gx hbox hb;replace dh:=zA (Kd.z2 (zVR dh.out) hb);replace dq:=zA (Kd.z2 (zVR dq.out) hb);have cE:=zA hbox;have AH:=zA (zS hg:w.heap.size≤dg);have AI:=zA (zS hg:w.heap.size≤dg);replace HB:=zA (zq0 zB hb);have pp:=zA (zNlt hg (zK cx.out):ef≠dg);have pq:=zA (zNgt hg (zK cx.out):dg≠ef);replace cx:=zA (zq1 (zK cx.out) hb);clear hb hbox hg;have AJ:=pq.out;have AK:=pp.out;obtain ⟨_,_,_,_,_,_,_,_,_⟩:=zc9 cE.out;obtain ⟨_,_,_,_,_,_,_,_,_⟩:=zf9 cE.out;obtain ⟨bo,bi,wH⟩:=Kd.z9 dh.out;subst wH;obtain ⟨bk,bc,mg⟩:=Kd.z9 dq.out;subst mg)|((with_reducible refine zq2 (f:=25) rfl ?_);refine zq4 (some 12) rfl rfl Tryz.func25 zY2 rfl #[.agg #[.int .i64 di,.int .i64 dj,.string dk,.string dl,.int .i64 dm,.string dn,.string dp,.slice bo cP.length bi,.slice bk cQ.length bc]] rfl zY0 ?_;(with_reducible refine (spec_l6Ok.calls k di dj dk dl dm dn dp _ _ cP _ _ cQ true _ ?side1 ?side2 ?side3 ?side4 A6.out).mono ?_);(case side1=>refine (Kd.z8 (e:=24) (base:=w.heap.size) (ok:=fun k_=>True) (n:=cP.length) (c:=bi) ?_).2.2;exact (by exact zr (Kd.z7 (zR9 dg (Kd.z10 dh.out cE.out zY4) (.int .i64 di) (.int .i64 dj) (.string dk) (.string dl) (.int .i64 dm) (.string dn) (.string dp) (.slice bo cP.length bi) (.slice bk cQ.length bc)) (fun _ h_=>h_.1))));(case side2=>exact (Kd.z8 dh.out).2.1);(case side3=>refine (Kd.z8 (e:=9) (base:=w.heap.size) (ok:=fun k_=>True) (n:=cQ.length) (c:=bc) ?_).2.2;exact (by exact zr (Kd.z7 (zR9 dg (Kd.z10 dq.out cE.out zY4) (.int .i64 di) (.int .i64 dj) (.string dk) (.string dl) (.int .i64 dm) (.string dn) (.string dp) (.slice bo cP.length bi) (.slice bk cQ.length bc)) (fun _ h_=>h_.1))));(case side4=>exact (Kd.z8 dq.out).2.1);rintro e jz ⟨rfl,hb⟩;refine ⟨_,rfl,?_⟩;replace dh:=zA (Kd.z2 (by exact zr (Kd.z7 (zR9 dg (Kd.z10 dh.out cE.out zY4) (.int .i64 di) (.int .i64 dj) (.string dk) (.string dl) (.int .i64 dm) (.string dn) (.string dp) (.slice bo cP.length bi) (.slice bk cQ.length bc)) (fun _ h_=>h_.1))) hb);replace dq:=zA (Kd.z2 (by exact zr (Kd.z7 (zR9 dg (Kd.z10 dq.out cE.out zY4) (.int .i64 di) (.int .i64 dj) (.string dk) (.string dl) (.int .i64 dm) (.string dn) (.string dp) (.slice bo cP.length bi) (.slice bk cQ.length bc)) (fun _ h_=>h_.1))) hb);replace cx:=zA (zq1 (g:=ef) (o:=.cells #[.int .i64 0,.int .i64 0,.string bz0,.string bz0,.int .i64 0,.string bz0,.string bz0,.slice none 0 0,.slice none 0 0] 30 (0,0)) (zG cx.out) hb);replace cE:=zA (zq1 (g:=dg) (o:=.cells #[.int .i64 di,.int .i64 dj,.string dk,.string dl,.int .i64 dm,.string dn,.string dp,.slice bo cP.length bi,.slice bk cQ.length bc] 30 (0,0)) (zG cE.out) hb);replace HB:=zA (zq0 zB hb);clear hb;obtain ⟨_,_,_,_,_,_,_,_,_⟩:=zc9 cE.out;obtain ⟨_,_,_,_,_,_,_,_,_⟩:=zf9 cE.out)|(go_at_call 26;(with_reducible refine (spec_l6Body.calls k di dj dk dl dm dn dp _ _ cP _ _ cQ iG _ ?side1 ?side2 ?side3 ?side4 A8.out).mono ?_);(case side1=>exact zC (Kd.z8 dh.out).2.2);(case side2=>exact (Kd.z8 dh.out).2.1);(case side3=>exact zC (Kd.z8 dq.out).2.2);(case side4=>exact (Kd.z8 dq.out).2.1);rintro e eS ⟨rfl,hb⟩;replace dh:=zA (Kd.z2 (zVR dh.out) hb);replace dq:=zA (Kd.z2 (zVR dq.out) hb);replace cx:=zA (zq1 (zK cx.out) hb);replace cE:=zA (zq1 (zK cE.out) hb);replace HB:=zA (zq0 zB hb);clear hb;obtain ⟨_,_,_,_,_,_,_,_,_⟩:=zc9 cE.out;obtain ⟨_,_,_,_,_,_,_,_,_⟩:=zf9 cE.out;obtain ⟨_,_,_,_,_,_,_,_,_⟩:=zc9 cx.out;obtain ⟨_,_,_,_,_,_,_,_,_⟩:=zf9 cx.out))
 refine bodyPost_ret (zq13 rfl _ _ ef 30 #[.int .i64 di,.int .i64 dj,.string dk,.string dl,.int .i64 dm,.string dn,.string dp,.slice bo cP.length bi,.slice bk cQ.length bc] (0,0) _ rfl (zG cx.out) Tryz.underlying30 rfl zY2) rfl ?_
 exact ⟨_,_,zT,by (with_reducible repeat (first|apply Kd.z1|apply Kd.z4|apply Kd.z3));exact Kd.z7 (zR9 ef (Kd.z10 dh.out cx.out zY4) (.int .i64 di) (.int .i64 dj) (.string dk) (.string dl) (.int .i64 dm) (.string dn) (.string dp) (.slice bo cP.length bi) (.slice bk cQ.length bc)) (fun _ hk=>trivial),by (with_reducible repeat (first|apply Kd.z1|apply Kd.z4|apply Kd.z3));exact Kd.z7 (zR9 ef (Kd.z10 dq.out cx.out zY4) (.int .i64 di) (.int .i64 dj) (.string dk) (.string dl) (.int .i64 dm) (.string dn) (.string dp) (.slice bo cP.length bi) (.slice bk cQ.length bc)) (fun _ hk=>trivial),zB⟩
def stringslite_HasPrefix.f (a0:ByteArray) (a1:ByteArray):Option (Bool):=if (a0.size:Int)≥(a1.size:Int) then (if 0≤(a1.size:Int) then (if (a1.size:Int)≤(a0.size:Int) then (some ((a0.extract 0 ((a1.size:Int):Int).toNat).toList==a1.toList)) else (none)) else (none)) else (some false)
set_option maxHeartbeats 8000000 in
set_option maxRecDepth 100000 in
theorem stringslite_HasPrefix.calls (a0:ByteArray) (a1:ByteArray) (r:Bool) (w:World) (h:stringslite_HasPrefix.f a0 a1=some r) :
 Calls Tryz.prog 138 #[.string a0,.string a1] w fun e w'=>e=.returned (.bool r)∧Drawn0 w w':=by
 have H:(if (a0.size:Int)≥(a1.size:Int) then (if 0≤(a1.size:Int) then (if (a1.size:Int)≤(a0.size:Int) then (some ((a0.extract 0 ((a1.size:Int):Int).toNat).toList==a1.toList)) else (none)) else (none)) else (some false))=some r:=h
 clear h
 by_cases c3:(a0.size:Int)≥(a1.size:Int)
 rotate_left
 ·rw [if_neg c3] at H
  have c3b0:decide ((a1.size:Int)≤(a0.size:Int))=false:=decide_eq_false c3
  have c3b1:decide (a1.size≤a0.size)=false:=decide_eq_false (fun h=>c3 (Int.ofNat_le.mpr h))
  clear c3
  obtain rfl:=Option.some.inj H
  go_enter Tryz.func138,Tryz.ntmps138
  go_wp2
  go_ret
  exact ⟨by first|rfl|(simp;done)|(simp [*];done),by repeat (first|exact Drawn0.refl _|apply Drawn0.step)⟩
 rw [if_pos c3] at H
 have c3b0:decide ((a1.size:Int)≤(a0.size:Int))=true:=decide_eq_true c3
 have c3b1:decide (a1.size≤a0.size)=true:=decide_eq_true (Int.ofNat_le.mp c3)
 clear c3
 obtain ⟨c4,H⟩:=zp H
 have c4b0:=eq_true c4
 have c4b1:decide (0≤(a1.size:Int))=true:=decide_eq_true c4
 clear c4
 obtain ⟨c5,H⟩:=zp H
 have c5b0:=eq_true c5
 have c5b1:decide ((a1.size:Int)≤(a0.size:Int))=true:=decide_eq_true c5
 clear c5
 obtain rfl:=Option.some.inj H
 go_enter Tryz.func138,Tryz.ntmps138
 go_wp2
 go_ret
 exact ⟨by first|rfl|(simp;done)|(simp [*];done),by repeat (first|exact Drawn0.refl _|apply Drawn0.step)⟩
def stringslite_CutPrefix.f (a0:ByteArray) (a1:ByteArray):Option (ByteArray × Bool):=(stringslite_HasPrefix.f a0 a1).bind fun aH=>(if aH=true then (if 0≤(a1.size:Int) then (if (a1.size:Int)≤(a0.size:Int) then (some (a0.extract ((a1.size:Int):Int).toNat a0.size,true)) else (none)) else (none)) else (some (a0,false)))
set_option maxHeartbeats 8000000 in
set_option maxRecDepth 100000 in
theorem stringslite_CutPrefix.calls (a0:ByteArray) (a1:ByteArray) (r1:ByteArray) (r2:Bool) (w:World) (h:stringslite_CutPrefix.f a0 a1=some (r1,r2)) :
 Calls Tryz.prog 125 #[.string a0,.string a1] w fun e w'=>e=.returned (.tuple #[.string r1,.bool r2])∧Drawn0 w w':=by
 have H:((stringslite_HasPrefix.f a0 a1).bind fun aH=>(if aH=true then (if 0≤(a1.size:Int) then (if (a1.size:Int)≤(a0.size:Int) then (some (a0.extract ((a1.size:Int):Int).toNat a0.size,true)) else (none)) else (none)) else (some (a0,false))))=some (r1,r2):=h
 clear h
 replace H:=Option.bind_eq_some_iff.mp H
 obtain ⟨aH,bu,H⟩:=H
 try dsimp only at H
 have A3:=zA bu
 clear bu
 by_cases c4:aH=true
 rotate_left
 ·replace c4:=Bool.eq_false_iff.mpr c4
  subst c4
  rw [if_neg zfn] at H
  simp only [Option.some.injEq,Prod.mk.injEq] at H
  obtain ⟨rfl,rfl⟩:=H
  go_enter Tryz.func125,Tryz.ntmps125
  go_wp2_with (first|((with_reducible refine zq2 (f:=138) rfl ?_);refine zq4 (some 8) rfl rfl Tryz.func138 zY2 rfl #[.string a0,.string a1] rfl zY0 ?_;(with_reducible refine (stringslite_HasPrefix.calls a0 a1 false _ A3.out).mono ?_);rintro e w' ⟨rfl,⟨nd,rfl⟩⟩;refine ⟨_,rfl,?_⟩))
  go_ret2
  exact ⟨by first|rfl|(simp;done)|(simp [*];done),by repeat (first|exact Drawn0.refl _|apply Drawn0.step)⟩
 subst c4
 rw [if_pos rfl] at H
 obtain ⟨c5,H⟩:=zp H
 have c5b0:=eq_true c5
 have c5b1:decide (0≤(a1.size:Int))=true:=decide_eq_true c5
 clear c5
 obtain ⟨c6,H⟩:=zp H
 have c6b0:=eq_true c6
 have c6b1:decide ((a1.size:Int)≤(a0.size:Int))=true:=decide_eq_true c6
 clear c6
 simp only [Option.some.injEq,Prod.mk.injEq] at H
 obtain ⟨rfl,rfl⟩:=H
 go_enter Tryz.func125,Tryz.ntmps125
 go_wp2_with (first|((with_reducible refine zq2 (f:=138) rfl ?_);refine zq4 (some 8) rfl rfl Tryz.func138 zY2 rfl #[.string a0,.string a1] rfl zY0 ?_;(with_reducible refine (stringslite_HasPrefix.calls a0 a1 true _ A3.out).mono ?_);rintro e w' ⟨rfl,⟨nd,rfl⟩⟩;refine ⟨_,rfl,?_⟩))
 go_ret2
 exact ⟨by first|rfl|(simp;done)|(simp [*];done),by repeat (first|exact Drawn0.refl _|apply Drawn0.step)⟩
def strings_CutPrefix.f (a0:ByteArray) (a1:ByteArray):Option (ByteArray × Bool):=(stringslite_CutPrefix.f a0 a1).bind fun dK=>(some (dK.1,dK.2))
set_option maxHeartbeats 8000000 in
set_option maxRecDepth 100000 in
theorem strings_CutPrefix.calls (a0:ByteArray) (a1:ByteArray) (r1:ByteArray) (r2:Bool) (w:World) (h:strings_CutPrefix.f a0 a1=some (r1,r2)) :
 Calls Tryz.prog 74 #[.string a0,.string a1] w fun e w'=>e=.returned (.tuple #[.string r1,.bool r2])∧Drawn0 w w':=by
 have H:((stringslite_CutPrefix.f a0 a1).bind fun dK=>(some (dK.1,dK.2)))=some (r1,r2):=h
 clear h
 replace H:=Option.bind_eq_some_iff.mp H
 obtain ⟨⟨ai,cn⟩,bu,H⟩:=H
 try dsimp only at H
 have A3:=zA bu
 clear bu
 simp only [Option.some.injEq,Prod.mk.injEq] at H
 obtain ⟨rfl,rfl⟩:=H
 go_enter Tryz.func74,Tryz.ntmps74
 go_wp2_with (first|((with_reducible refine zq2 (f:=125) rfl ?_);refine zq4 (some 8) rfl rfl Tryz.func125 zY2 rfl #[.string a0,.string a1] rfl zY0 ?_;(with_reducible refine (stringslite_CutPrefix.calls a0 a1 ai cn _ A3.out).mono ?_);rintro e w' ⟨rfl,⟨nd,rfl⟩⟩;refine ⟨_,rfl,?_⟩))
 go_ret2
 exact ⟨by first|rfl|(simp;done)|(simp [*];done),by repeat (first|exact Drawn0.refl _|apply Drawn0.step)⟩
def stringslite_HasSuffix.f (a0:ByteArray) (a1:ByteArray):Option (Bool):=if (a0.size:Int)≥(a1.size:Int) then (if 0≤(wrap64 ((a0.size:Int) - (a1.size:Int))) then (if (wrap64 ((a0.size:Int) - (a1.size:Int)))≤(a0.size:Int) then (some ((a0.extract ((wrap64 ((a0.size:Int) - (a1.size:Int))):Int).toNat a0.size).toList==a1.toList)) else (none)) else (none)) else (some false)
set_option maxHeartbeats 8000000 in
set_option maxRecDepth 100000 in
theorem stringslite_HasSuffix.calls (a0:ByteArray) (a1:ByteArray) (r:Bool) (w:World) (h:stringslite_HasSuffix.f a0 a1=some r) :
 Calls Tryz.prog 163 #[.string a0,.string a1] w fun e w'=>e=.returned (.bool r)∧Drawn0 w w':=by
 have H:(if (a0.size:Int)≥(a1.size:Int) then (if 0≤(wrap64 ((a0.size:Int) - (a1.size:Int))) then (if (wrap64 ((a0.size:Int) - (a1.size:Int)))≤(a0.size:Int) then (some ((a0.extract ((wrap64 ((a0.size:Int) - (a1.size:Int))):Int).toNat a0.size).toList==a1.toList)) else (none)) else (none)) else (some false))=some r:=h
 clear h
 by_cases c3:(a0.size:Int)≥(a1.size:Int)
 rotate_left
 ·rw [if_neg c3] at H
  have c3b0:decide ((a1.size:Int)≤(a0.size:Int))=false:=decide_eq_false c3
  have c3b1:decide (a1.size≤a0.size)=false:=decide_eq_false (fun h=>c3 (Int.ofNat_le.mpr h))
  clear c3
  obtain rfl:=Option.some.inj H
  go_enter Tryz.func163,Tryz.ntmps163
  go_wp2
  go_ret
  exact ⟨by first|rfl|(simp;done)|(simp [*];done),by repeat (first|exact Drawn0.refl _|apply Drawn0.step)⟩
 rw [if_pos c3] at H
 have c3b0:decide ((a1.size:Int)≤(a0.size:Int))=true:=decide_eq_true c3
 have c3b1:decide (a1.size≤a0.size)=true:=decide_eq_true (Int.ofNat_le.mp c3)
 clear c3
 obtain ⟨m7,hji4⟩:∃ j_:Int,(wrap64 ((a0.size:Int) - (a1.size:Int)))=j_:=⟨_,rfl⟩
 replace H:(if 0≤(m7) then (if (m7)≤(a0.size:Int) then (some ((a0.extract ((m7):Int).toNat a0.size).toList==a1.toList)) else (none)) else (none))=some r:=by first|(rw [hji4] at H;exact H)|(simp only [hji4] at H ⊢;exact H)
 have hji4w:(IntKind.i64.wrap ((a0.size:Int) - (a1.size:Int)))=m7:=(i64_w _).trans hji4
 obtain ⟨c5,H⟩:=zp H
 have c5b0:=eq_true c5
 have c5b1:decide (0≤(m7))=true:=decide_eq_true c5
 clear c5
 obtain ⟨c6,H⟩:=zp H
 have c6b0:=eq_true c6
 have c6b1:decide ((m7)≤(a0.size:Int))=true:=decide_eq_true c6
 clear c6
 obtain rfl:=Option.some.inj H
 go_enter Tryz.func163,Tryz.ntmps163
 go_wp2
 go_ret
 exact ⟨by first|rfl|(simp;done)|(simp only [← hji4]<;>(first|rfl|simp))|(simp [*];done),by repeat (first|exact Drawn0.refl _|apply Drawn0.step)⟩
def stringslite_TrimSuffix.f (a0:ByteArray) (a1:ByteArray):Option (ByteArray):=(stringslite_HasSuffix.f a0 a1).bind fun aH=>(if aH=true then (if 0≤(wrap64 ((a0.size:Int) - (a1.size:Int))) then (if (wrap64 ((a0.size:Int) - (a1.size:Int)))≤(a0.size:Int) then (some (a0.extract 0 ((wrap64 ((a0.size:Int) - (a1.size:Int))):Int).toNat)) else (none)) else (none)) else (some a0))
set_option maxHeartbeats 8000000 in
set_option maxRecDepth 100000 in
theorem stringslite_TrimSuffix.calls (a0:ByteArray) (a1:ByteArray) (r:ByteArray) (w:World) (h:stringslite_TrimSuffix.f a0 a1=some r) :
 Calls Tryz.prog 126 #[.string a0,.string a1] w fun e w'=>e=.returned (.string r)∧Drawn0 w w':=by
 have H:((stringslite_HasSuffix.f a0 a1).bind fun aH=>(if aH=true then (if 0≤(wrap64 ((a0.size:Int) - (a1.size:Int))) then (if (wrap64 ((a0.size:Int) - (a1.size:Int)))≤(a0.size:Int) then (some (a0.extract 0 ((wrap64 ((a0.size:Int) - (a1.size:Int))):Int).toNat)) else (none)) else (none)) else (some a0)))=some r:=h
 clear h
 replace H:=Option.bind_eq_some_iff.mp H
 obtain ⟨aH,bu,H⟩:=H
 try dsimp only at H
 have A3:=zA bu
 clear bu
 by_cases c4:aH=true
 rotate_left
 ·replace c4:=Bool.eq_false_iff.mpr c4
  subst c4
  rw [if_neg zfn] at H
  obtain rfl:=Option.some.inj H
  go_enter Tryz.func126,Tryz.ntmps126
  go_wp2_with (first|((with_reducible refine zq2 (f:=163) rfl ?_);refine zq4 (some 7) rfl rfl Tryz.func163 zY2 rfl #[.string a0,.string a1] rfl zY0 ?_;(with_reducible refine (stringslite_HasSuffix.calls a0 a1 false _ A3.out).mono ?_);rintro e w' ⟨rfl,⟨nd,rfl⟩⟩;refine ⟨_,rfl,?_⟩))
  go_ret
  exact ⟨by first|rfl|(simp;done)|(simp [*];done),by repeat (first|exact Drawn0.refl _|apply Drawn0.step)⟩
 subst c4
 rw [if_pos rfl] at H
 obtain ⟨m8,hji5⟩:∃ j_:Int,(wrap64 ((a0.size:Int) - (a1.size:Int)))=j_:=⟨_,rfl⟩
 replace H:(if 0≤(m8) then (if (m8)≤(a0.size:Int) then (some (a0.extract 0 ((m8):Int).toNat)) else (none)) else (none))=some r:=by first|(rw [hji5] at H;exact H)|(simp only [hji5] at H ⊢;exact H)
 (try rw [hji5] at A3)
 have hji5w:(IntKind.i64.wrap ((a0.size:Int) - (a1.size:Int)))=m8:=(i64_w _).trans hji5
 obtain ⟨c6,H⟩:=zp H
 have c6b0:=eq_true c6
 have c6b1:decide (0≤(m8))=true:=decide_eq_true c6
 clear c6
 obtain ⟨c7,H⟩:=zp H
 have c7b0:=eq_true c7
 have c7b1:decide ((m8)≤(a0.size:Int))=true:=decide_eq_true c7
 clear c7
 obtain rfl:=Option.some.inj H
 go_enter Tryz.func126,Tryz.ntmps126
 go_wp2_with (first|((with_reducible refine zq2 (f:=163) rfl ?_);refine zq4 (some 7) rfl rfl Tryz.func163 zY2 rfl #[.string a0,.string a1] rfl zY0 ?_;(with_reducible refine (stringslite_HasSuffix.calls a0 a1 true _ A3.out).mono ?_);rintro e w' ⟨rfl,⟨nd,rfl⟩⟩;refine ⟨_,rfl,?_⟩))
 go_ret
 exact ⟨by first|rfl|(simp;done)|(simp only [← hji5]<;>(first|rfl|simp))|(simp [*];done),by repeat (first|exact Drawn0.refl _|apply Drawn0.step)⟩
def strings_TrimSuffix.f (a0:ByteArray) (a1:ByteArray):Option (ByteArray):=(stringslite_TrimSuffix.f a0 a1).bind fun ai=>(some ai)
set_option maxHeartbeats 8000000 in
set_option maxRecDepth 100000 in
theorem strings_TrimSuffix.calls (a0:ByteArray) (a1:ByteArray) (r:ByteArray) (w:World) (h:strings_TrimSuffix.f a0 a1=some r) :
 Calls Tryz.prog 75 #[.string a0,.string a1] w fun e w'=>e=.returned (.string r)∧Drawn0 w w':=by
 have H:((stringslite_TrimSuffix.f a0 a1).bind fun ai=>(some ai))=some r:=h
 clear h
 replace H:=Option.bind_eq_some_iff.mp H
 obtain ⟨ai,bu,H⟩:=H
 try dsimp only at H
 have A3:=zA bu
 clear bu
 obtain rfl:=Option.some.inj H
 go_enter Tryz.func75,Tryz.ntmps75
 go_wp2_with (first|((with_reducible refine zq2 (f:=126) rfl ?_);refine zq4 (some 7) rfl rfl Tryz.func126 zY2 rfl #[.string a0,.string a1] rfl zY0 ?_;(with_reducible refine (stringslite_TrimSuffix.calls a0 a1 ai _ A3.out).mono ?_);rintro e w' ⟨rfl,⟨nd,rfl⟩⟩;refine ⟨_,rfl,?_⟩))
 go_ret
 exact ⟨by first|rfl|(simp;done)|(simp [*];done),by repeat (first|exact Drawn0.refl _|apply Drawn0.step)⟩
def impl_AddrGet.f (k:Nat) (a0:ByteArray):Option (ByteArray × ByteArray × Bool):=(strings_CutPrefix.f a0 (⟨#[60]⟩:ByteArray)).bind fun iI=>((strings_TrimSuffix.f iI.1 (⟨#[62]⟩:ByteArray)).bind fun cf=>((strings_Cut.f cf (⟨#[64]⟩:ByteArray)).bind fun fp=>(if iI.2=true then ((impl_Addr_sender.f k fp.1 fp.2.1).bind fun cu=>(if cu=true then ((impl_Addr_text.f fp.1 fp.2.1).bind fun b8=>(if b8.toList=a0.toList then (some (fp.1,fp.2.1,true)) else (some ((⟨#[]⟩:ByteArray),(⟨#[]⟩:ByteArray),false)))) else (some ((⟨#[]⟩:ByteArray),(⟨#[]⟩:ByteArray),false)))) else (some ((⟨#[]⟩:ByteArray),(⟨#[]⟩:ByteArray),false)))))
set_option maxHeartbeats 8000000 in
set_option maxRecDepth 100000 in
theorem impl_AddrGet.calls (k:Nat) (a0:ByteArray) (r1:ByteArray) (r2:ByteArray) (r3:Bool) (w:World) (hG:GOK w) (h:impl_AddrGet.f k a0=some (r1,r2,r3)) :
 Calls Tryz.prog 37 #[.string a0] w fun e w'=>e=.returned (.tuple #[.agg #[.string r1,.string r2],.bool r3])∧Below w.heap.size w w':=by
 have hu24:=Tryz.underlying24
 have HG:=zA hG
 clear hG
 have HB:=zA (Below.refl w.heap.size w)
 have H:((strings_CutPrefix.f a0 bz3).bind fun iI=>((strings_TrimSuffix.f iI.1 bz11).bind fun cf=>((strings_Cut.f cf bz4).bind fun fp=>(if iI.2=true then ((impl_Addr_sender.f k fp.1 fp.2.1).bind fun cu=>(if cu=true then ((impl_Addr_text.f fp.1 fp.2.1).bind fun b8=>(if b8.toList=a0.toList then (some (fp.1,fp.2.1,true)) else (some (bz0,bz0,false)))) else (some (bz0,bz0,false)))) else (some (bz0,bz0,false))))))=some (r1,r2,r3):=h
 clear h
 replace H:=Option.bind_eq_some_iff.mp H
 obtain ⟨⟨cp,gl⟩,bv,H⟩:=H
 try dsimp only at H
 have A2:=zA bv
 clear bv
 replace H:=Option.bind_eq_some_iff.mp H
 obtain ⟨cf,bu,H⟩:=H
 try dsimp only at H
 have A3:=zA bu
 clear bu
 replace H:=Option.bind_eq_some_iff.mp H
 obtain ⟨⟨d9,b7,cV⟩,ci,H⟩:=H
 try dsimp only at H
 have A4:=zA ci
 clear ci
 by_cases c5:gl=true
 rotate_left
 ·replace c5:=Bool.eq_false_iff.mpr c5
  subst c5
  rw [if_neg zfn] at H
  simp only [Option.some.injEq,Prod.mk.injEq] at H
  obtain ⟨rfl,rfl,rfl⟩:=H
  go_enter Tryz.func37,Tryz.ntmps37
  go_wp2_with (first|((with_reducible refine zq5 (N:=2) rfl ?_);refine zE (N:=2) (cs:=#[.string bz0,.string bz0]) (t:=24) ?_;intro cr hg eR hbox hb;have aJ:=zA hbox;have m9:=zA (zS hg:w.heap.size≤cr);have na:=zA (zS hg:w.heap.size≤cr);replace HB:=zA (zq0 zB hb);clear hb hbox hg)|((with_reducible refine zq2 (f:=74) rfl ?_);refine zq4 (some 12) rfl rfl Tryz.func74 zY2 rfl #[.string a0,.string bz3] rfl zY0 ?_;(with_reducible refine (strings_CutPrefix.calls a0 bz3 cp false _ A2.out).mono ?_);rintro e w' ⟨rfl,⟨nd,rfl⟩⟩;refine ⟨_,rfl,?_⟩;(try (rw [drewN_self eR];generalize hq_:World.drewN eR _=eR;have aQ:Aside0 (eR.heap[cr]?=some (.cells #[.string bz0,.string bz0] 24 (0,0))):=⟨by rw [← hq_];exact (zK aJ.out)⟩;have aR:Aside0 (Below w.heap.size w eR):=⟨by rw [← hq_];exact zB⟩;clear aJ HB hq_;have aJ:=aQ;have HB:=aR;clear aQ aR)))|((with_reducible refine zq2 (f:=75) rfl ?_);refine zq4 (some 17) rfl rfl Tryz.func75 zY2 rfl #[.string cp,.string bz11] rfl zY0 ?_;(with_reducible refine (strings_TrimSuffix.calls cp bz11 cf _ A3.out).mono ?_);rintro e w' ⟨rfl,⟨nd,rfl⟩⟩;refine ⟨_,rfl,?_⟩;(try (rw [drewN_self eR];generalize hq_:World.drewN eR _=eR;have aQ:Aside0 (eR.heap[cr]?=some (.cells #[.string bz0,.string bz0] 24 (0,0))):=⟨by rw [← hq_];exact (zK aJ.out)⟩;have aR:Aside0 (Below w.heap.size w eR):=⟨by rw [← hq_];exact zB⟩;clear aJ HB hq_;have aJ:=aQ;have HB:=aR;clear aQ aR)))|((with_reducible refine zq2 (f:=33) rfl ?_);refine zq4 (some 18) rfl rfl Tryz.func33 zY2 rfl #[.string cf,.string bz4] rfl zY0 ?_;(with_reducible refine (strings_Cut.calls cf bz4 d9 b7 cV _ ?side1 A4.out).mono ?_);(case side1=>exact zg);rintro e w' ⟨rfl,⟨nd,rfl⟩⟩;refine ⟨_,rfl,?_⟩;(try (rw [drewN_self eR];generalize hq_:World.drewN eR _=eR;have aQ:Aside0 (eR.heap[cr]?=some (.cells #[.string bz0,.string bz0] 24 (0,0))):=⟨by rw [← hq_];exact (zK aJ.out)⟩;have aR:Aside0 (Below w.heap.size w eR):=⟨by rw [← hq_];exact zB⟩;clear aJ HB hq_;have aJ:=aQ;have HB:=aR;clear aQ aR)))|((with_reducible refine zq5 (N:=9) rfl ?_);refine zE (N:=9) (cs:=#[.string bz0,.string bz0]) (t:=24) ?_;intro eM hg n2 hbox hb;have ea:=zA hbox;have wI:=zA (zS hg:w.heap.size≤eM);have wJ:=zA (zS hg:w.heap.size≤eM);replace HB:=zA (zq0 zB hb);have mj:=zA (zNlt hg (zK aJ.out):cr≠eM);have ml:=zA (zNgt hg (zK aJ.out):eM≠cr);replace aJ:=zA (zq1 (zK aJ.out) hb);clear hb hbox hg;have NF:=ml.out;have NG:=mj.out;obtain ⟨_,_⟩:=zc2 ea.out;obtain ⟨_,_⟩:=zf2 ea.out;obtain ⟨_,_⟩:=zc2 aJ.out;obtain ⟨_,_⟩:=zf2 aJ.out))
  refine bodyPost_ret (zq13 rfl _ _ cr 24 #[.string bz0,.string bz0] (0,0) _ rfl (zG aJ.out) Tryz.underlying24 rfl zY2) rfl ?_
  exact ⟨zT,zB⟩
 subst c5
 rw [if_pos rfl] at H
 replace H:=Option.bind_eq_some_iff.mp H
 obtain ⟨cu,es,H⟩:=H
 try dsimp only at H
 have A6:=zA es
 clear es
 by_cases c7:cu=true
 rotate_left
 ·replace c7:=Bool.eq_false_iff.mpr c7
  subst c7
  rw [if_neg zfn] at H
  simp only [Option.some.injEq,Prod.mk.injEq] at H
  obtain ⟨rfl,rfl,rfl⟩:=H
  go_enter Tryz.func37,Tryz.ntmps37
  go_wp2_with (first|((with_reducible refine zq5 (N:=2) rfl ?_);refine zE (N:=2) (cs:=#[.string bz0,.string bz0]) (t:=24) ?_;intro cr hg eG hbox hb;have aJ:=zA hbox;have m9:=zA (zS hg:w.heap.size≤cr);have na:=zA (zS hg:w.heap.size≤cr);replace HB:=zA (zq0 zB hb);clear hb hbox hg)|((with_reducible refine zq2 (f:=74) rfl ?_);refine zq4 (some 12) rfl rfl Tryz.func74 zY2 rfl #[.string a0,.string bz3] rfl zY0 ?_;(with_reducible refine (strings_CutPrefix.calls a0 bz3 cp true _ A2.out).mono ?_);rintro e w' ⟨rfl,⟨nd,rfl⟩⟩;refine ⟨_,rfl,?_⟩;(try (rw [drewN_self eG];generalize hq_:World.drewN eG _=eG;have aQ:Aside0 (eG.heap[cr]?=some (.cells #[.string bz0,.string bz0] 24 (0,0))):=⟨by rw [← hq_];exact (zK aJ.out)⟩;have aR:Aside0 (Below w.heap.size w eG):=⟨by rw [← hq_];exact zB⟩;clear aJ HB hq_;have aJ:=aQ;have HB:=aR;clear aQ aR)))|((with_reducible refine zq2 (f:=75) rfl ?_);refine zq4 (some 17) rfl rfl Tryz.func75 zY2 rfl #[.string cp,.string bz11] rfl zY0 ?_;(with_reducible refine (strings_TrimSuffix.calls cp bz11 cf _ A3.out).mono ?_);rintro e w' ⟨rfl,⟨nd,rfl⟩⟩;refine ⟨_,rfl,?_⟩;(try (rw [drewN_self eG];generalize hq_:World.drewN eG _=eG;have aQ:Aside0 (eG.heap[cr]?=some (.cells #[.string bz0,.string bz0] 24 (0,0))):=⟨by rw [← hq_];exact (zK aJ.out)⟩;have aR:Aside0 (Below w.heap.size w eG):=⟨by rw [← hq_];exact zB⟩;clear aJ HB hq_;have aJ:=aQ;have HB:=aR;clear aQ aR)))|((with_reducible refine zq2 (f:=33) rfl ?_);refine zq4 (some 18) rfl rfl Tryz.func33 zY2 rfl #[.string cf,.string bz4] rfl zY0 ?_;(with_reducible refine (strings_Cut.calls cf bz4 d9 b7 cV _ ?side1 A4.out).mono ?_);(case side1=>exact zg);rintro e w' ⟨rfl,⟨nd,rfl⟩⟩;refine ⟨_,rfl,?_⟩;(try (rw [drewN_self eG];generalize hq_:World.drewN eG _=eG;have aQ:Aside0 (eG.heap[cr]?=some (.cells #[.string bz0,.string bz0] 24 (0,0))):=⟨by rw [← hq_];exact (zK aJ.out)⟩;have aR:Aside0 (Below w.heap.size w eG):=⟨by rw [← hq_];exact zB⟩;clear aJ HB hq_;have aJ:=aQ;have HB:=aR;clear aQ aR)))|((with_reducible refine zq5 (N:=9) rfl ?_);refine zE (N:=9) (cs:=#[.string bz0,.string bz0]) (t:=24) ?_;intro eM hg gb hbox hb;have ea:=zA hbox;have wI:=zA (zS hg:w.heap.size≤eM);have wJ:=zA (zS hg:w.heap.size≤eM);replace HB:=zA (zq0 zB hb);have mj:=zA (zNlt hg (zK aJ.out):cr≠eM);have ml:=zA (zNgt hg (zK aJ.out):eM≠cr);replace aJ:=zA (zq1 (zK aJ.out) hb);clear hb hbox hg;have uR:=ml.out;have uS:=mj.out;obtain ⟨_,_⟩:=zc2 ea.out;obtain ⟨_,_⟩:=zf2 ea.out)|(go_at_call 66;(with_reducible refine (impl_Addr_sender.calls k d9 b7 false _ ?side1 A6.out).mono ?_);(case side1=>exact zg);rintro e mC ⟨rfl,hb⟩;replace aJ:=zA (zq1 (g:=cr) (o:=.cells #[.string bz0,.string bz0] 24 (0,0)) (zG aJ.out) hb);replace ea:=zA (zq1 (g:=eM) (o:=.cells #[.string d9,.string b7] 24 (0,0)) (zG ea.out) hb);replace HB:=zA (zq0 zB hb);clear hb;obtain ⟨_,_⟩:=zc2 aJ.out;obtain ⟨_,_⟩:=zf2 aJ.out))
  refine bodyPost_ret (zq13 rfl _ _ cr 24 #[.string bz0,.string bz0] (0,0) _ rfl (zG aJ.out) Tryz.underlying24 rfl zY2) rfl ?_
  exact ⟨zT,zB⟩
 subst c7
 rw [if_pos rfl] at H
 replace H:=Option.bind_eq_some_iff.mp H
 obtain ⟨b8,e6,H⟩:=H
 try dsimp only at H
 have A8:=zA e6
 clear e6
 by_cases c9:b8.toList=a0.toList
 rotate_left
 ·rw [if_neg c9] at H
  have c9b0:(b8.toList==a0.toList)=false:=beq_eq_false_iff_ne.mpr c9
  have c9b1:(b8.toList != a0.toList)=true:=bne_iff_ne.mpr c9
  simp only [Option.some.injEq,Prod.mk.injEq] at H
  obtain ⟨rfl,rfl,rfl⟩:=H
  go_enter Tryz.func37,Tryz.ntmps37
  go_wp2_with (first|((with_reducible refine zq5 (N:=2) rfl ?_);refine zE (N:=2) (cs:=#[.string bz0,.string bz0]) (t:=24) ?_;intro cr hg eS hbox hb;have aJ:=zA hbox;have m9:=zA (zS hg:w.heap.size≤cr);have na:=zA (zS hg:w.heap.size≤cr);replace HB:=zA (zq0 zB hb);clear hb hbox hg)|((with_reducible refine zq2 (f:=74) rfl ?_);refine zq4 (some 12) rfl rfl Tryz.func74 zY2 rfl #[.string a0,.string bz3] rfl zY0 ?_;(with_reducible refine (strings_CutPrefix.calls a0 bz3 cp true _ A2.out).mono ?_);rintro e w' ⟨rfl,⟨nd,rfl⟩⟩;refine ⟨_,rfl,?_⟩;(try (rw [drewN_self eS];generalize hq_:World.drewN eS _=eS;have aQ:Aside0 (eS.heap[cr]?=some (.cells #[.string bz0,.string bz0] 24 (0,0))):=⟨by rw [← hq_];exact (zK aJ.out)⟩;have aR:Aside0 (Below w.heap.size w eS):=⟨by rw [← hq_];exact zB⟩;clear aJ HB hq_;have aJ:=aQ;have HB:=aR;clear aQ aR)))|((with_reducible refine zq2 (f:=75) rfl ?_);refine zq4 (some 17) rfl rfl Tryz.func75 zY2 rfl #[.string cp,.string bz11] rfl zY0 ?_;(with_reducible refine (strings_TrimSuffix.calls cp bz11 cf _ A3.out).mono ?_);rintro e w' ⟨rfl,⟨nd,rfl⟩⟩;refine ⟨_,rfl,?_⟩;(try (rw [drewN_self eS];generalize hq_:World.drewN eS _=eS;have aQ:Aside0 (eS.heap[cr]?=some (.cells #[.string bz0,.string bz0] 24 (0,0))):=⟨by rw [← hq_];exact (zK aJ.out)⟩;have aR:Aside0 (Below w.heap.size w eS):=⟨by rw [← hq_];exact zB⟩;clear aJ HB hq_;have aJ:=aQ;have HB:=aR;clear aQ aR)))|((with_reducible refine zq2 (f:=33) rfl ?_);refine zq4 (some 18) rfl rfl Tryz.func33 zY2 rfl #[.string cf,.string bz4] rfl zY0 ?_;(with_reducible refine (strings_Cut.calls cf bz4 d9 b7 cV _ ?side1 A4.out).mono ?_);(case side1=>exact zg);rintro e w' ⟨rfl,⟨nd,rfl⟩⟩;refine ⟨_,rfl,?_⟩;(try (rw [drewN_self eS];generalize hq_:World.drewN eS _=eS;have aQ:Aside0 (eS.heap[cr]?=some (.cells #[.string bz0,.string bz0] 24 (0,0))):=⟨by rw [← hq_];exact (zK aJ.out)⟩;have aR:Aside0 (Below w.heap.size w eS):=⟨by rw [← hq_];exact zB⟩;clear aJ HB hq_;have aJ:=aQ;have HB:=aR;clear aQ aR)))|((with_reducible refine zq5 (N:=9) rfl ?_);refine zE (N:=9) (cs:=#[.string bz0,.string bz0]) (t:=24) ?_;intro eM hg mD hbox hb;have ea:=zA hbox;have wI:=zA (zS hg:w.heap.size≤eM);have wJ:=zA (zS hg:w.heap.size≤eM);replace HB:=zA (zq0 zB hb);have mj:=zA (zNlt hg (zK aJ.out):cr≠eM);have ml:=zA (zNgt hg (zK aJ.out):eM≠cr);replace aJ:=zA (zq1 (zK aJ.out) hb);clear hb hbox hg;have sW:=ml.out;have sX:=mj.out;obtain ⟨_,_⟩:=zc2 ea.out;obtain ⟨_,_⟩:=zf2 ea.out)|(go_at_call 66;(with_reducible refine (impl_Addr_sender.calls k d9 b7 true _ ?side1 A6.out).mono ?_);(case side1=>exact zg);rintro e kI ⟨rfl,hb⟩;replace aJ:=zA (zq1 (g:=cr) (o:=.cells #[.string bz0,.string bz0] 24 (0,0)) (zG aJ.out) hb);replace ea:=zA (zq1 (g:=eM) (o:=.cells #[.string d9,.string b7] 24 (0,0)) (zG ea.out) hb);replace HB:=zA (zq0 zB hb);clear hb;obtain ⟨_,_⟩:=zc2 ea.out;obtain ⟨_,_⟩:=zf2 ea.out)|(go_at_call 24;(with_reducible refine (impl_Addr_text.calls d9 b7 b8 _ A8.out).mono ?_);rintro e jA ⟨rfl,hb⟩;replace aJ:=zA (zq1 (zK aJ.out) hb);replace ea:=zA (zq1 (zK ea.out) hb);replace HB:=zA (zq0 zB hb);clear hb;obtain ⟨_,_⟩:=zc2 aJ.out;obtain ⟨_,_⟩:=zf2 aJ.out))
  refine bodyPost_ret (zq13 rfl _ _ cr 24 #[.string bz0,.string bz0] (0,0) _ rfl (zG aJ.out) Tryz.underlying24 rfl zY2) rfl ?_
  exact ⟨zT,zB⟩
 rw [if_pos c9] at H
 have c9b0:(b8.toList==a0.toList)=true:=beq_iff_eq.mpr c9
 have c9b1:(b8.toList != a0.toList)=false:=bne_eq_false_iff_eq.mpr c9
 clear c9
 simp only [Option.some.injEq,Prod.mk.injEq] at H
 obtain ⟨rfl,rfl,rfl⟩:=H
 go_enter Tryz.func37,Tryz.ntmps37
 go_wp2_with (first|((with_reducible refine zq5 (N:=2) rfl ?_);refine zE (N:=2) (cs:=#[.string bz0,.string bz0]) (t:=24) ?_;intro cr hg cv hbox hb;have aJ:=zA hbox;have m9:=zA (zS hg:w.heap.size≤cr);have na:=zA (zS hg:w.heap.size≤cr);replace HB:=zA (zq0 zB hb);clear hb hbox hg)|((with_reducible refine zq2 (f:=74) rfl ?_);refine zq4 (some 12) rfl rfl Tryz.func74 zY2 rfl #[.string a0,.string bz3] rfl zY0 ?_;(with_reducible refine (strings_CutPrefix.calls a0 bz3 cp true _ A2.out).mono ?_);rintro e w' ⟨rfl,⟨nd,rfl⟩⟩;refine ⟨_,rfl,?_⟩;(try (rw [drewN_self cv];generalize hq_:World.drewN cv _=cv;have aQ:Aside0 (cv.heap[cr]?=some (.cells #[.string bz0,.string bz0] 24 (0,0))):=⟨by rw [← hq_];exact (zK aJ.out)⟩;have aR:Aside0 (Below w.heap.size w cv):=⟨by rw [← hq_];exact zB⟩;clear aJ HB hq_;have aJ:=aQ;have HB:=aR;clear aQ aR)))|((with_reducible refine zq2 (f:=75) rfl ?_);refine zq4 (some 17) rfl rfl Tryz.func75 zY2 rfl #[.string cp,.string bz11] rfl zY0 ?_;(with_reducible refine (strings_TrimSuffix.calls cp bz11 cf _ A3.out).mono ?_);rintro e w' ⟨rfl,⟨nd,rfl⟩⟩;refine ⟨_,rfl,?_⟩;(try (rw [drewN_self cv];generalize hq_:World.drewN cv _=cv;have aQ:Aside0 (cv.heap[cr]?=some (.cells #[.string bz0,.string bz0] 24 (0,0))):=⟨by rw [← hq_];exact (zK aJ.out)⟩;have aR:Aside0 (Below w.heap.size w cv):=⟨by rw [← hq_];exact zB⟩;clear aJ HB hq_;have aJ:=aQ;have HB:=aR;clear aQ aR)))|((with_reducible refine zq2 (f:=33) rfl ?_);refine zq4 (some 18) rfl rfl Tryz.func33 zY2 rfl #[.string cf,.string bz4] rfl zY0 ?_;(with_reducible refine (strings_Cut.calls cf bz4 d9 b7 cV _ ?side1 A4.out).mono ?_);(case side1=>exact zg);rintro e w' ⟨rfl,⟨nd,rfl⟩⟩;refine ⟨_,rfl,?_⟩;(try (rw [drewN_self cv];generalize hq_:World.drewN cv _=cv;have aQ:Aside0 (cv.heap[cr]?=some (.cells #[.string bz0,.string bz0] 24 (0,0))):=⟨by rw [← hq_];exact (zK aJ.out)⟩;have aR:Aside0 (Below w.heap.size w cv):=⟨by rw [← hq_];exact zB⟩;clear aJ HB hq_;have aJ:=aQ;have HB:=aR;clear aQ aR)))|((with_reducible refine zq5 (N:=9) rfl ?_);refine zE (N:=9) (cs:=#[.string bz0,.string bz0]) (t:=24) ?_;intro eM hg gv hbox hb;have ea:=zA hbox;have wI:=zA (zS hg:w.heap.size≤eM);have wJ:=zA (zS hg:w.heap.size≤eM);replace HB:=zA (zq0 zB hb);have mj:=zA (zNlt hg (zK aJ.out):cr≠eM);have ml:=zA (zNgt hg (zK aJ.out):eM≠cr);replace aJ:=zA (zq1 (zK aJ.out) hb);clear hb hbox hg;have yw:=ml.out;have yx:=mj.out;obtain ⟨_,_⟩:=zc2 ea.out;obtain ⟨_,_⟩:=zf2 ea.out)|(go_at_call 66;(with_reducible refine (impl_Addr_sender.calls k d9 b7 true _ ?side1 A6.out).mono ?_);(case side1=>exact zg);rintro e jy ⟨rfl,hb⟩;replace aJ:=zA (zq1 (g:=cr) (o:=.cells #[.string bz0,.string bz0] 24 (0,0)) (zG aJ.out) hb);replace ea:=zA (zq1 (g:=eM) (o:=.cells #[.string d9,.string b7] 24 (0,0)) (zG ea.out) hb);replace HB:=zA (zq0 zB hb);clear hb;obtain ⟨_,_⟩:=zc2 ea.out;obtain ⟨_,_⟩:=zf2 ea.out)|(go_at_call 24;(with_reducible refine (impl_Addr_text.calls d9 b7 b8 _ A8.out).mono ?_);rintro e nq ⟨rfl,hb⟩;replace aJ:=zA (zq1 (zK aJ.out) hb);replace ea:=zA (zq1 (zK ea.out) hb);replace HB:=zA (zq0 zB hb);clear hb;obtain ⟨_,_⟩:=zc2 ea.out;obtain ⟨_,_⟩:=zf2 ea.out;obtain ⟨_,_⟩:=zc2 aJ.out;obtain ⟨_,_⟩:=zf2 aJ.out))
 refine bodyPost_ret (zq13 rfl _ _ cr 24 #[.string d9,.string b7] (0,0) _ rfl (zG aJ.out) Tryz.underlying24 rfl zY2) rfl ?_
 exact ⟨zT,zB⟩
end Go.Proofs.YtjdpdkdhfnpcgaaGreatDoor.Q
