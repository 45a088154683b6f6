/- Of a text of ours what this claim needs. -/
import Derived.Test.YtjdpdkdhfnpcgaaGreatDoorZzFnExactNoteGetSQ0
import Derived.Test.YtjdpdkdhfnpcgaaGreatDoorZzFnExactNoteGetSAu
import Derived.Test.YtjdpdkdhfnpcgaaGreatDoorZzFnExactNoteGetSQ1
import Derived.Test.YtjdpdkdhfnpcgaaGreatDoorZzFnExactNoteGetSQ3
import Derived.Test.YtjdpdkdhfnpcgaaGreatDoorZzFnExactNoteGetSQ5
namespace Go.Proofs.YtjdpdkdhfnpcgaaGreatDoor.Q
open Go.RowKit Go.Proofs.YtjdpdkdhfnpcgaaGreatDoorW.PrintWords Go.Proofs.YtjdpdkdhfnpcgaaGreatDoorW.PrintLast Go.Proofs.YtjdpdkdhfnpcgaaGreatDoorW.PrintMore
attribute [local go_sem] max2_int min2_int max_two min_two max_three min_three max_four min_four
set_option linter.unusedVariables false
set_option linter.unusedSimpArgs false
attribute [local go_sem high] eqA24
mutual
def spec_l2Ok.l0:Nat→Int→ByteArray→ByteArray→List (S24)→List ByteArray→Option (Bool)
 | 0,_,_,_,_,_=>none
 | k+1,x3,mG,mH,gf,mI=>if x3 < (gf.length:Int) then (if 0≤x3 then ((spec_l1AddrOk.f k ((zq6 gf x3).f0) ((zq6 gf x3).f1)).bind fun bO=>(if bO=true then (spec_l2Ok.l1 k x3 0 mG mH gf mI) else (some false))) else (none)) else ((spec_l1AddrOk.f k mG mH).bind fun cX=>(if cX=true then ((spec_l1In.f (gf.length:Int) 1 4).bind fun dU=>(if dU=true then ((spec_l2BodyOk.f k mI).bind fun aW=>(some aW)) else (some false))) else ((spec_l1Null.f mG mH).bind fun dx=>(if dx=true then ((spec_l1In.f (gf.length:Int) 1 4).bind fun bE=>(if bE=true then ((spec_l2BodyOk.f k mI).bind fun ca=>(some ca)) else (some false))) else (some false)))))
def spec_l2Ok.l1:Nat→Int→Int→ByteArray→ByteArray→List (S24)→List ByteArray→Option (Bool)
 | 0,_,_,_,_,_,_=>none
 | k+1,x3,x4,mG,mH,gf,mI=>if x4 < x3 then (if 0≤x4 then (if x4 < (gf.length:Int) then (if 0≤x3 then (if x3 < (gf.length:Int) then (if ((((zq6 gf x4).f0).toList)==(((zq6 gf x3).f0).toList) && ((((zq6 gf x4).f1).toList)==(((zq6 gf x3).f1).toList)))=true then (some false) else (spec_l2Ok.l1 k x3 (wrap64 (x4+1)) mG mH gf mI)) else (none)) else (none)) else (none)) else (none)) else (spec_l2Ok.l0 k (wrap64 (x3+1)) mG mH gf mI)
end
def spec_l2Ok.f (k:Nat) (aa:ByteArray) (ab:ByteArray) (af:List (S24)) (ap:List ByteArray):Option (Bool):=spec_l2Ok.l0 k 0 aa ab af ap
set_option maxHeartbeats 8000000 in
set_option maxRecDepth 100000 in
theorem spec_l2Ok.calls (k:Nat) (aa:ByteArray) (ab:ByteArray) (b9:Option Addr) (b4:Nat) (af:List (S24)) (b5:Option Addr) (b6:Nat) (ap:List ByteArray) (r:Bool) (w:World) (eX:Kd.C k24 w b9 af.length af) (eY:af.length≤b4) (eZ:Kd.C Kd.string w b5 ap.length ap) (e5:ap.length≤b6) (h:spec_l2Ok.f k aa ab af ap=some r) :
 Calls Tryz.prog 57 #[.agg #[.string aa,.string ab,.slice b9 af.length b4,.slice b5 ap.length b6]] w fun e w'=>e=.returned (.bool r)∧Below w.heap.size w w':=by
 have hu28:=Tryz.underlying28
 have hu24:=Tryz.underlying24
 have d6:=zA eX
 have fe:=zA eY
 clear eX eY
 have eP:=zA eZ
 have eQ:=zA e5
 clear eZ e5
 have HB:=zA (Below.refl w.heap.size w)
 have H:(spec_l2Ok.l0 k 0 aa ab af ap)=some r:=h
 clear h
 have H':=zA H
 clear H
 go_enter Tryz.func57,Tryz.ntmps57
 go_wp2_with (first|((with_reducible refine zq5 (N:=1) rfl ?_);(try (refine gate_guard zY30 ?_;dsimp only));refine zE (N:=1) (cs:=#[.string aa,.string ab,.slice b9 af.length b4,.slice b5 ap.length b6]) (t:=28) ?_;intro dO hg w2 hbox hb;have ah:=zA hbox;have mA:=zA (zS hg:w.heap.size≤dO);have mB:=zA (zS hg:w.heap.size≤dO);replace HB:=zA (zq0 zB hb);clear hb hbox hg))
 repeat (go_quiet (first|((with_reducible refine zq5 (N:=1) rfl ?_);(try (refine gate_guard zY30 ?_;dsimp only));refine zE (N:=1) (cs:=#[.string aa,.string ab,.slice b9 af.length b4,.slice b5 ap.length b6]) (t:=28) ?_;intro dO hg w2 hbox hb;have ah:=zA hbox;have mA:=zA (zS hg:w.heap.size≤dO);have mB:=zA (zS hg:w.heap.size≤dO);replace HB:=zA (zq0 zB hb);clear hb hbox hg));try go_wp2_with (first|((with_reducible refine zq5 (N:=1) rfl ?_);(try (refine gate_guard zY30 ?_;dsimp only));refine zE (N:=1) (cs:=#[.string aa,.string ab,.slice b9 af.length b4,.slice b5 ap.length b6]) (t:=28) ?_;intro dO hg w2 hbox hb;have ah:=zA hbox;have mA:=zA (zS hg:w.heap.size≤dO);have mB:=zA (zS hg:w.heap.size≤dO);replace HB:=zA (zq0 zB hb);clear hb hbox hg)))
 go_loopg [3] k (fun kq v3 w'=>∃ (ac:Int),v3=.int .i64 ac∧Aside0 (spec_l2Ok.l0 kq ac aa ab af ap=some r)∧Aside0 (kq≤k)∧Aside0 (w'.heap[dO]?=some (.cells #[.string aa,.string ab,(.slice b9 af.length b4),(.slice b5 ap.length b6)] 28 (0,0)))∧Aside0 (Below w.heap.size w w'))
 case atStart=>exact ⟨(0),zY3,H',⟨Nat.le_refl _⟩,⟨zK ah.out⟩,⟨zB⟩⟩
 case round =>
  clear H'
  try clear p2
  obtain ⟨ac,rfl,HA,HK1,ah,HB⟩:=hrel
  cases gk with
  | zero=>exact absurd HA.out (by simp [spec_l2Ok.l0])
  | succ k1 =>
   have H:=HA.out
   clear HA
   simp only [spec_l2Ok.l0] at H
   by_cases c3:ac < (af.length:Int)
   ·rw [if_pos c3] at H
    have c3b0:decide (ac < (af.length:Int))=true:=decide_eq_true c3
    clear c3
    obtain ⟨c4,H⟩:=zp H
    have c4b0:decide (0≤ac)=true:=decide_eq_true c4
    clear c4
    replace H:=Option.bind_eq_some_iff.mp H
    obtain ⟨bO,dS,H⟩:=H
    try dsimp only at H
    have A5:=zA dS
    clear dS
    by_cases c6:bO=true
    rotate_left
    ·replace c6:=Bool.eq_false_iff.mpr c6
     subst c6
     rw [if_neg zfn] at H
     obtain rfl:=Option.some.inj H
     obtain ⟨_,_,_,_⟩:=zc4 ah.out
     obtain ⟨_,_,_,_⟩:=zf4 ah.out
     have ei:0≤(ac:Int):=of_decide_eq_true zY1
     have ej:ac < (af.length:Int):=of_decide_eq_true zY1
     obtain ⟨ip,iq,fC,f3⟩:=at_T24 d6.out ac ei ej
     cases iq
     replace fC:=(HB.out.cell (World.block_lt_of_cell? w _ fC)).trans fC
     replace f3:=(HB.out.cell (World.block_lt_of_cell? w _ f3)).trans f3
     replace ei:=eq_true ei
     replace ej:=eq_true ej
     go_wp2_with (first|(go_at_call 59;(with_reducible refine (spec_l1AddrOk.calls k1 ((zq6 af ac).f0) ((zq6 af ac).f1) false _ A5.out).mono ?_);rintro e jD ⟨rfl,hb⟩;replace ah:=zA (zq1 (zK ah.out) hb);replace HB:=zA (zq0 zB hb);clear hb))
     repeat (go_quiet (first|(go_at_call 59;(with_reducible refine (spec_l1AddrOk.calls k1 ((zq6 af ac).f0) ((zq6 af ac).f1) false _ A5.out).mono ?_);rintro e jD ⟨rfl,hb⟩;replace ah:=zA (zq1 (zK ah.out) hb);replace HB:=zA (zq0 zB hb);clear hb));try go_wp2_with (first|(go_at_call 59;(with_reducible refine (spec_l1AddrOk.calls k1 ((zq6 af ac).f0) ((zq6 af ac).f1) false _ A5.out).mono ?_);rintro e jD ⟨rfl,hb⟩;replace ah:=zA (zq1 (zK ah.out) hb);replace HB:=zA (zq0 zB hb);clear hb)))
     go_ret
     exact ⟨zT,zB⟩
    subst c6
    rw [if_pos rfl] at H
    have H':=zA H
    clear H
    obtain ⟨ky,kz,kA,kB⟩:=zc4 ah.out
    obtain ⟨kC,kD,kE,kF⟩:=zf4 ah.out
    have ei:0≤(ac:Int):=of_decide_eq_true zY1
    have ej:ac < (af.length:Int):=of_decide_eq_true zY1
    obtain ⟨ip,iq,fC,f3⟩:=at_T24 d6.out ac ei ej
    cases iq
    replace fC:=(HB.out.cell (World.block_lt_of_cell? w _ fC)).trans fC
    replace f3:=(HB.out.cell (World.block_lt_of_cell? w _ f3)).trans f3
    replace ei:=eq_true ei
    replace ej:=eq_true ej
    go_wp2_with (first|(go_at_call 59;(with_reducible refine (spec_l1AddrOk.calls k1 ((zq6 af ac).f0) ((zq6 af ac).f1) true _ A5.out).mono ?_);rintro e w8 ⟨rfl,hb⟩;replace ah:=zA (zq1 (zK ah.out) hb);replace HB:=zA (zq0 zB hb);clear hb))
    repeat (go_quiet (first|(go_at_call 59;(with_reducible refine (spec_l1AddrOk.calls k1 ((zq6 af ac).f0) ((zq6 af ac).f1) true _ A5.out).mono ?_);rintro e w8 ⟨rfl,hb⟩;replace ah:=zA (zq1 (zK ah.out) hb);replace HB:=zA (zq0 zB hb);clear hb));try go_wp2_with (first|(go_at_call 59;(with_reducible refine (spec_l1AddrOk.calls k1 ((zq6 af ac).f0) ((zq6 af ac).f1) true _ A5.out).mono ?_);rintro e w8 ⟨rfl,hb⟩;replace ah:=zA (zq1 (zK ah.out) hb);replace HB:=zA (zq0 zB hb);clear hb)))
    go_loopg [4] k1 (fun kq v4 w'=>∃ (dJ:Int),v4=.int .i64 dJ∧Aside0 (spec_l2Ok.l1 kq ac dJ aa ab af ap=some r)∧Aside0 (kq≤k1)∧Aside0 (w'.heap[dO]?=some (.cells #[.string aa,.string ab,(.slice (some ip) af.length b4),(.slice b5 ap.length b6)] 28 (0,0)))∧Aside0 (Below w.heap.size w w'))
    case atStart=>exact ⟨(0),zY3,H',⟨Nat.le_refl _⟩,⟨zK ah.out⟩,⟨zB⟩⟩
    case round =>
     clear H'
     try clear p1
     try clear q1
     try clear lr
     try clear p2
     try clear c3
     try clear c3b0
     try clear c4
     try clear c4b0
     try clear c5
     try clear c6
     try clear ky kz kA kB
     try clear kC kD kE kF
     try clear fC
     try clear f3
     try clear ei
     try clear p2
     try clear ej
     obtain ⟨dJ,rfl,HA,HK2,ah,HB⟩:=hrel
     cases gk with
     | zero=>exact absurd HA.out (by simp [spec_l2Ok.l1])
     | succ k2 =>
      have H:=HA.out
      clear HA
      simp only [spec_l2Ok.l1] at H
      by_cases c9:dJ < ac
      rotate_left
      ·rw [if_neg c9] at H
       have c9b0:decide (dJ < ac)=false:=decide_eq_false c9
       clear c9
       have H':=zA H
       clear H
       go_wp2
       repeat (go_quiet (fail);try go_wp2)
       go_roundg k2
       case measure=>have:=HK1.out;have:=HK2.out;omega
       case rel=>exact ⟨(wrap64 (ac+1)),zY3,H',⟨by have:=HK1.out;have:=HK2.out;omega⟩,⟨zK ah.out⟩,⟨zB⟩⟩
      rw [if_pos c9] at H
      have c9b0:decide (dJ < ac)=true:=decide_eq_true c9
      clear c9
      obtain ⟨ce,H⟩:=zp H
      have c10b0:decide (0≤dJ)=true:=decide_eq_true ce
      clear ce
      obtain ⟨dI,H⟩:=zp H
      have c11b0:decide (dJ < (af.length:Int))=true:=decide_eq_true dI
      clear dI
      obtain ⟨bH,H⟩:=zp H
      have c12b0:decide (0≤ac)=true:=decide_eq_true bH
      clear bH
      obtain ⟨bj,H⟩:=zp H
      have c13b0:decide (ac < (af.length:Int))=true:=decide_eq_true bj
      clear bj
      by_cases bB:((((zq6 af dJ).f0).toList)==(((zq6 af ac).f0).toList) && ((((zq6 af dJ).f1).toList)==(((zq6 af ac).f1).toList)))=true
      ·rw [if_pos bB] at H
       have c14b0:((((zq6 af dJ).f0).toList)==(((zq6 af ac).f0).toList) && ((((zq6 af dJ).f1).toList)==(((zq6 af ac).f1).toList)))=true:=bB
       (try (have c14b1:decide ((((zq6 af dJ).f0).toList)=(((zq6 af ac).f0).toList) && ((((zq6 af dJ).f1).toList)==(((zq6 af ac).f1).toList)))=true:=by simpa using bB))
       (try (have c14b2:((((zq6 af dJ).f0).toList)==(((zq6 af ac).f0).toList) && ((((zq6 af dJ).f1).toList)==(((zq6 af ac).f1).toList)))=true:=by simpa using bB))
       clear bB
       obtain rfl:=Option.some.inj H
       obtain ⟨_,_,_,_⟩:=zc4 ah.out
       obtain ⟨_,_,_,_⟩:=zf4 ah.out
       have lu:0≤(dJ:Int):=of_decide_eq_true zY1
       have lv:dJ < (af.length:Int):=of_decide_eq_true zY1
       obtain ⟨tf,tg,lw,lx⟩:=at_T24 d6.out dJ lu lv
       obtain rfl:ip=tf:=(by injection tg)
       replace lw:=(HB.out.cell (World.block_lt_of_cell? w _ lw)).trans lw
       replace lx:=(HB.out.cell (World.block_lt_of_cell? w _ lx)).trans lx
       replace lu:=eq_true lu
       replace lv:=eq_true lv
       have ly:0≤(ac:Int):=of_decide_eq_true zY1
       have lz:ac < (af.length:Int):=of_decide_eq_true zY1
       obtain ⟨th,tj,lA,lB⟩:=at_T24 d6.out ac ly lz
       obtain rfl:ip=th:=(by injection tj)
       replace lA:=(HB.out.cell (World.block_lt_of_cell? w _ lA)).trans lA
       replace lB:=(HB.out.cell (World.block_lt_of_cell? w _ lB)).trans lB
       replace ly:=eq_true ly
       replace lz:=eq_true lz
       go_wp2
       repeat (go_quiet (fail);try go_wp2)
       go_ret
       exact ⟨zT,zB⟩
      rw [if_neg bB] at H
      have c14b0:((((zq6 af dJ).f0).toList)==(((zq6 af ac).f0).toList) && ((((zq6 af dJ).f1).toList)==(((zq6 af ac).f1).toList)))=false:=by simpa using bB
      (try (have c14b1:decide ((((zq6 af dJ).f0).toList)=(((zq6 af ac).f0).toList) && ((((zq6 af dJ).f1).toList)==(((zq6 af ac).f1).toList)))=false:=by simpa using bB))
      (try (have c14b2:((((zq6 af dJ).f0).toList)==(((zq6 af ac).f0).toList) && ((((zq6 af dJ).f1).toList)==(((zq6 af ac).f1).toList)))=false:=by simpa using bB))
      (try (have c14b3:¬ ((((zq6 af dJ).f0).toList)=(((zq6 af ac).f0).toList) && ((((zq6 af dJ).f1).toList)==(((zq6 af ac).f1).toList))):=by simpa using bB))
      clear bB
      have H':=zA H
      clear H
      obtain ⟨_,_,_,_⟩:=zc4 ah.out
      obtain ⟨_,_,_,_⟩:=zf4 ah.out
      have lu:0≤(dJ:Int):=of_decide_eq_true zY1
      have lv:dJ < (af.length:Int):=of_decide_eq_true zY1
      obtain ⟨tf,tg,lw,lx⟩:=at_T24 d6.out dJ lu lv
      obtain rfl:ip=tf:=(by injection tg)
      replace lw:=(HB.out.cell (World.block_lt_of_cell? w _ lw)).trans lw
      replace lx:=(HB.out.cell (World.block_lt_of_cell? w _ lx)).trans lx
      replace lu:=eq_true lu
      replace lv:=eq_true lv
      have ly:0≤(ac:Int):=of_decide_eq_true zY1
      have lz:ac < (af.length:Int):=of_decide_eq_true zY1
      obtain ⟨th,tj,lA,lB⟩:=at_T24 d6.out ac ly lz
      obtain rfl:ip=th:=(by injection tj)
      replace lA:=(HB.out.cell (World.block_lt_of_cell? w _ lA)).trans lA
      replace lB:=(HB.out.cell (World.block_lt_of_cell? w _ lB)).trans lB
      replace ly:=eq_true ly
      replace lz:=eq_true lz
      go_wp2
      repeat (go_quiet (fail);try go_wp2)
      go_roundg k2
      case measure=>have:=HK1.out;have:=HK2.out;omega
      case rel=>exact ⟨(wrap64 (dJ+1)),zY3,H',⟨by have:=HK1.out;have:=HK2.out;omega⟩,⟨zK ah.out⟩,⟨zB⟩⟩
   rw [if_neg c3] at H
   have c3b0:decide (ac < (af.length:Int))=false:=decide_eq_false c3
   clear c3
   replace H:=Option.bind_eq_some_iff.mp H
   obtain ⟨cX,fP,H⟩:=H
   try dsimp only at H
   have dE:=zA fP
   clear fP
   by_cases ch:cX=true
   ·subst ch
    rw [if_pos rfl] at H
    replace H:=Option.bind_eq_some_iff.mp H
    obtain ⟨dU,ir,H⟩:=H
    try dsimp only at H
    have gW:=zA ir
    clear ir
    by_cases cI:dU=true
    rotate_left
    ·replace cI:=Bool.eq_false_iff.mpr cI
     subst cI
     rw [if_neg zfn] at H
     obtain rfl:=Option.some.inj H
     obtain ⟨_,_,_,_⟩:=zc4 ah.out
     obtain ⟨_,_,_,_⟩:=zf4 ah.out
     go_wp2_with (first|(go_at_call 59;(with_reducible refine (spec_l1AddrOk.calls k1 aa ab true _ dE.out).mono ?_);rintro e gb ⟨rfl,hb⟩;replace ah:=zA (zq1 (zK ah.out) hb);replace HB:=zA (zq0 zB hb);clear hb;obtain ⟨_,_,_,_⟩:=zc4 ah.out;obtain ⟨_,_,_,_⟩:=zf4 ah.out)|(go_at_call 58;(with_reducible refine (spec_l1In.calls (af.length:Int) 1 4 false _ gW.out).mono ?_);rintro e w' ⟨rfl,⟨nd,rfl⟩⟩;(try first|exact ⟨rfl,_,World.drewN_drewN _ _ _⟩|exact ⟨rfl,_,Eq.trans (World.drewN_drewN _ _ _) (congrArg (World.drewN _) (Nat.add_assoc _ _ _))⟩)))
     repeat (go_quiet (first|(go_at_call 59;(with_reducible refine (spec_l1AddrOk.calls k1 aa ab true _ dE.out).mono ?_);rintro e gb ⟨rfl,hb⟩;replace ah:=zA (zq1 (zK ah.out) hb);replace HB:=zA (zq0 zB hb);clear hb;obtain ⟨_,_,_,_⟩:=zc4 ah.out;obtain ⟨_,_,_,_⟩:=zf4 ah.out)|(go_at_call 58;(with_reducible refine (spec_l1In.calls (af.length:Int) 1 4 false _ gW.out).mono ?_);rintro e w' ⟨rfl,⟨nd,rfl⟩⟩;(try first|exact ⟨rfl,_,World.drewN_drewN _ _ _⟩|exact ⟨rfl,_,Eq.trans (World.drewN_drewN _ _ _) (congrArg (World.drewN _) (Nat.add_assoc _ _ _))⟩)));try go_wp2_with (first|(go_at_call 59;(with_reducible refine (spec_l1AddrOk.calls k1 aa ab true _ dE.out).mono ?_);rintro e gb ⟨rfl,hb⟩;replace ah:=zA (zq1 (zK ah.out) hb);replace HB:=zA (zq0 zB hb);clear hb;obtain ⟨_,_,_,_⟩:=zc4 ah.out;obtain ⟨_,_,_,_⟩:=zf4 ah.out)|(go_at_call 58;(with_reducible refine (spec_l1In.calls (af.length:Int) 1 4 false _ gW.out).mono ?_);rintro e w' ⟨rfl,⟨nd,rfl⟩⟩;(try first|exact ⟨rfl,_,World.drewN_drewN _ _ _⟩|exact ⟨rfl,_,Eq.trans (World.drewN_drewN _ _ _) (congrArg (World.drewN _) (Nat.add_assoc _ _ _))⟩))))
     go_ret
     exact ⟨zT,zB⟩
    subst cI
    rw [if_pos rfl] at H
    replace H:=Option.bind_eq_some_iff.mp H
    obtain ⟨aW,kG,H⟩:=H
    try dsimp only at H
    have kH:=zA kG
    clear kG
    obtain rfl:=Option.some.inj H
    obtain ⟨_,_,_,_⟩:=zc4 ah.out
    obtain ⟨_,_,_,_⟩:=zf4 ah.out
    go_wp2_with (first|(go_at_call 59;(with_reducible refine (spec_l1AddrOk.calls k1 aa ab true _ dE.out).mono ?_);rintro e jA ⟨rfl,hb⟩;replace ah:=zA (zq1 (zK ah.out) hb);replace HB:=zA (zq0 zB hb);clear hb;obtain ⟨_,_,_,_⟩:=zc4 ah.out;obtain ⟨_,_,_,_⟩:=zf4 ah.out)|(go_at_call 58;(with_reducible refine (spec_l1In.calls (af.length:Int) 1 4 true _ gW.out).mono ?_);rintro e w' ⟨rfl,⟨nd,rfl⟩⟩;(try first|exact ⟨rfl,_,World.drewN_drewN _ _ _⟩|exact ⟨rfl,_,Eq.trans (World.drewN_drewN _ _ _) (congrArg (World.drewN _) (Nat.add_assoc _ _ _))⟩))|(go_at_call 107;(with_reducible refine (spec_l2BodyOk.calls k1 _ _ ap aW _ ?side1 ?side2 kH.out).mono ?_);(case side1=>exact zC (Kd.z0 eP.out zB));(case side2=>exact eQ.out);rintro e w' ⟨rfl,⟨nd,rfl⟩⟩;(try first|exact ⟨rfl,_,World.drewN_drewN _ _ _⟩|exact ⟨rfl,_,Eq.trans (World.drewN_drewN _ _ _) (congrArg (World.drewN _) (Nat.add_assoc _ _ _))⟩)))
    repeat (go_quiet (first|(go_at_call 59;(with_reducible refine (spec_l1AddrOk.calls k1 aa ab true _ dE.out).mono ?_);rintro e jA ⟨rfl,hb⟩;replace ah:=zA (zq1 (zK ah.out) hb);replace HB:=zA (zq0 zB hb);clear hb;obtain ⟨_,_,_,_⟩:=zc4 ah.out;obtain ⟨_,_,_,_⟩:=zf4 ah.out)|(go_at_call 58;(with_reducible refine (spec_l1In.calls (af.length:Int) 1 4 true _ gW.out).mono ?_);rintro e w' ⟨rfl,⟨nd,rfl⟩⟩;(try first|exact ⟨rfl,_,World.drewN_drewN _ _ _⟩|exact ⟨rfl,_,Eq.trans (World.drewN_drewN _ _ _) (congrArg (World.drewN _) (Nat.add_assoc _ _ _))⟩))|(go_at_call 107;(with_reducible refine (spec_l2BodyOk.calls k1 _ _ ap aW _ ?side1 ?side2 kH.out).mono ?_);(case side1=>exact zC (Kd.z0 eP.out zB));(case side2=>exact eQ.out);rintro e w' ⟨rfl,⟨nd,rfl⟩⟩;(try first|exact ⟨rfl,_,World.drewN_drewN _ _ _⟩|exact ⟨rfl,_,Eq.trans (World.drewN_drewN _ _ _) (congrArg (World.drewN _) (Nat.add_assoc _ _ _))⟩)));try go_wp2_with (first|(go_at_call 59;(with_reducible refine (spec_l1AddrOk.calls k1 aa ab true _ dE.out).mono ?_);rintro e jA ⟨rfl,hb⟩;replace ah:=zA (zq1 (zK ah.out) hb);replace HB:=zA (zq0 zB hb);clear hb;obtain ⟨_,_,_,_⟩:=zc4 ah.out;obtain ⟨_,_,_,_⟩:=zf4 ah.out)|(go_at_call 58;(with_reducible refine (spec_l1In.calls (af.length:Int) 1 4 true _ gW.out).mono ?_);rintro e w' ⟨rfl,⟨nd,rfl⟩⟩;(try first|exact ⟨rfl,_,World.drewN_drewN _ _ _⟩|exact ⟨rfl,_,Eq.trans (World.drewN_drewN _ _ _) (congrArg (World.drewN _) (Nat.add_assoc _ _ _))⟩))|(go_at_call 107;(with_reducible refine (spec_l2BodyOk.calls k1 _ _ ap aW _ ?side1 ?side2 kH.out).mono ?_);(case side1=>exact zC (Kd.z0 eP.out zB));(case side2=>exact eQ.out);rintro e w' ⟨rfl,⟨nd,rfl⟩⟩;(try first|exact ⟨rfl,_,World.drewN_drewN _ _ _⟩|exact ⟨rfl,_,Eq.trans (World.drewN_drewN _ _ _) (congrArg (World.drewN _) (Nat.add_assoc _ _ _))⟩))))
    go_ret
    exact ⟨zT,zB⟩
   replace ch:=Bool.eq_false_iff.mpr ch
   subst ch
   rw [if_neg zfn] at H
   replace H:=Option.bind_eq_some_iff.mp H
   obtain ⟨dx,nG,H⟩:=H
   try dsimp only at H
   have bu:=zA nG
   clear nG
   by_cases i8:dx=true
   rotate_left
   ·replace i8:=Bool.eq_false_iff.mpr i8
    subst i8
    rw [if_neg zfn] at H
    obtain rfl:=Option.some.inj H
    obtain ⟨_,_,_,_⟩:=zc4 ah.out
    obtain ⟨_,_,_,_⟩:=zf4 ah.out
    go_wp2_with (first|(go_at_call 59;(with_reducible refine (spec_l1AddrOk.calls k1 aa ab false _ dE.out).mono ?_);rintro e qn ⟨rfl,hb⟩;replace ah:=zA (zq1 (zK ah.out) hb);replace HB:=zA (zq0 zB hb);clear hb;obtain ⟨_,_,_,_⟩:=zc4 ah.out;obtain ⟨_,_,_,_⟩:=zf4 ah.out)|(go_at_call 56;(with_reducible refine (spec_l1Null.calls aa ab false _ bu.out).mono ?_);rintro e mE ⟨rfl,hb⟩;replace ah:=zA (zq1 (zK ah.out) hb);replace HB:=zA (zq0 zB hb);clear hb))
    repeat (go_quiet (first|(go_at_call 59;(with_reducible refine (spec_l1AddrOk.calls k1 aa ab false _ dE.out).mono ?_);rintro e qn ⟨rfl,hb⟩;replace ah:=zA (zq1 (zK ah.out) hb);replace HB:=zA (zq0 zB hb);clear hb;obtain ⟨_,_,_,_⟩:=zc4 ah.out;obtain ⟨_,_,_,_⟩:=zf4 ah.out)|(go_at_call 56;(with_reducible refine (spec_l1Null.calls aa ab false _ bu.out).mono ?_);rintro e mE ⟨rfl,hb⟩;replace ah:=zA (zq1 (zK ah.out) hb);replace HB:=zA (zq0 zB hb);clear hb));try go_wp2_with (first|(go_at_call 59;(with_reducible refine (spec_l1AddrOk.calls k1 aa ab false _ dE.out).mono ?_);rintro e qn ⟨rfl,hb⟩;replace ah:=zA (zq1 (zK ah.out) hb);replace HB:=zA (zq0 zB hb);clear hb;obtain ⟨_,_,_,_⟩:=zc4 ah.out;obtain ⟨_,_,_,_⟩:=zf4 ah.out)|(go_at_call 56;(with_reducible refine (spec_l1Null.calls aa ab false _ bu.out).mono ?_);rintro e mE ⟨rfl,hb⟩;replace ah:=zA (zq1 (zK ah.out) hb);replace HB:=zA (zq0 zB hb);clear hb)))
    go_ret
    exact ⟨zT,zB⟩
   subst i8
   rw [if_pos rfl] at H
   replace H:=Option.bind_eq_some_iff.mp H
   obtain ⟨bE,yT,H⟩:=H
   try dsimp only at H
   have mJ:=zA yT
   clear yT
   by_cases gX:bE=true
   rotate_left
   ·replace gX:=Bool.eq_false_iff.mpr gX
    subst gX
    rw [if_neg zfn] at H
    obtain rfl:=Option.some.inj H
    obtain ⟨_,_,_,_⟩:=zc4 ah.out
    obtain ⟨_,_,_,_⟩:=zf4 ah.out
    go_wp2_with (first|(go_at_call 59;(with_reducible refine (spec_l1AddrOk.calls k1 aa ab false _ dE.out).mono ?_);rintro e le ⟨rfl,hb⟩;replace ah:=zA (zq1 (zK ah.out) hb);replace HB:=zA (zq0 zB hb);clear hb;obtain ⟨_,_,_,_⟩:=zc4 ah.out;obtain ⟨_,_,_,_⟩:=zf4 ah.out)|(go_at_call 56;(with_reducible refine (spec_l1Null.calls aa ab true _ bu.out).mono ?_);rintro e mF ⟨rfl,hb⟩;replace ah:=zA (zq1 (zK ah.out) hb);replace HB:=zA (zq0 zB hb);clear hb;obtain ⟨_,_,_,_⟩:=zc4 ah.out;obtain ⟨_,_,_,_⟩:=zf4 ah.out)|(go_at_call 58;(with_reducible refine (spec_l1In.calls (af.length:Int) 1 4 false _ mJ.out).mono ?_);rintro e w' ⟨rfl,⟨nd,rfl⟩⟩;(try first|exact ⟨rfl,_,World.drewN_drewN _ _ _⟩|exact ⟨rfl,_,Eq.trans (World.drewN_drewN _ _ _) (congrArg (World.drewN _) (Nat.add_assoc _ _ _))⟩)))
    repeat (go_quiet (first|(go_at_call 59;(with_reducible refine (spec_l1AddrOk.calls k1 aa ab false _ dE.out).mono ?_);rintro e le ⟨rfl,hb⟩;replace ah:=zA (zq1 (zK ah.out) hb);replace HB:=zA (zq0 zB hb);clear hb;obtain ⟨_,_,_,_⟩:=zc4 ah.out;obtain ⟨_,_,_,_⟩:=zf4 ah.out)|(go_at_call 56;(with_reducible refine (spec_l1Null.calls aa ab true _ bu.out).mono ?_);rintro e mF ⟨rfl,hb⟩;replace ah:=zA (zq1 (zK ah.out) hb);replace HB:=zA (zq0 zB hb);clear hb;obtain ⟨_,_,_,_⟩:=zc4 ah.out;obtain ⟨_,_,_,_⟩:=zf4 ah.out)|(go_at_call 58;(with_reducible refine (spec_l1In.calls (af.length:Int) 1 4 false _ mJ.out).mono ?_);rintro e w' ⟨rfl,⟨nd,rfl⟩⟩;(try first|exact ⟨rfl,_,World.drewN_drewN _ _ _⟩|exact ⟨rfl,_,Eq.trans (World.drewN_drewN _ _ _) (congrArg (World.drewN _) (Nat.add_assoc _ _ _))⟩)));try go_wp2_with (first|(go_at_call 59;(with_reducible refine (spec_l1AddrOk.calls k1 aa ab false _ dE.out).mono ?_);rintro e le ⟨rfl,hb⟩;replace ah:=zA (zq1 (zK ah.out) hb);replace HB:=zA (zq0 zB hb);clear hb;obtain ⟨_,_,_,_⟩:=zc4 ah.out;obtain ⟨_,_,_,_⟩:=zf4 ah.out)|(go_at_call 56;(with_reducible refine (spec_l1Null.calls aa ab true _ bu.out).mono ?_);rintro e mF ⟨rfl,hb⟩;replace ah:=zA (zq1 (zK ah.out) hb);replace HB:=zA (zq0 zB hb);clear hb;obtain ⟨_,_,_,_⟩:=zc4 ah.out;obtain ⟨_,_,_,_⟩:=zf4 ah.out)|(go_at_call 58;(with_reducible refine (spec_l1In.calls (af.length:Int) 1 4 false _ mJ.out).mono ?_);rintro e w' ⟨rfl,⟨nd,rfl⟩⟩;(try first|exact ⟨rfl,_,World.drewN_drewN _ _ _⟩|exact ⟨rfl,_,Eq.trans (World.drewN_drewN _ _ _) (congrArg (World.drewN _) (Nat.add_assoc _ _ _))⟩))))
    go_ret
    exact ⟨zT,zB⟩
   subst gX
   rw [if_pos rfl] at H
   replace H:=Option.bind_eq_some_iff.mp H
   obtain ⟨ca,nH,H⟩:=H
   try dsimp only at H
   have nI:=zA nH
   clear nH
   obtain rfl:=Option.some.inj H
   obtain ⟨_,_,_,_⟩:=zc4 ah.out
   obtain ⟨_,_,_,_⟩:=zf4 ah.out
   go_wp2_with (first|(go_at_call 59;(with_reducible refine (spec_l1AddrOk.calls k1 aa ab false _ dE.out).mono ?_);rintro e kw ⟨rfl,hb⟩;replace ah:=zA (zq1 (zK ah.out) hb);replace HB:=zA (zq0 zB hb);clear hb;obtain ⟨_,_,_,_⟩:=zc4 ah.out;obtain ⟨_,_,_,_⟩:=zf4 ah.out)|(go_at_call 56;(with_reducible refine (spec_l1Null.calls aa ab true _ bu.out).mono ?_);rintro e mK ⟨rfl,hb⟩;replace ah:=zA (zq1 (zK ah.out) hb);replace HB:=zA (zq0 zB hb);clear hb;obtain ⟨_,_,_,_⟩:=zc4 ah.out;obtain ⟨_,_,_,_⟩:=zf4 ah.out)|(go_at_call 58;(with_reducible refine (spec_l1In.calls (af.length:Int) 1 4 true _ mJ.out).mono ?_);rintro e w' ⟨rfl,⟨nd,rfl⟩⟩;(try first|exact ⟨rfl,_,World.drewN_drewN _ _ _⟩|exact ⟨rfl,_,Eq.trans (World.drewN_drewN _ _ _) (congrArg (World.drewN _) (Nat.add_assoc _ _ _))⟩))|(go_at_call 107;(with_reducible refine (spec_l2BodyOk.calls k1 _ _ ap ca _ ?side1 ?side2 nI.out).mono ?_);(case side1=>exact zC (Kd.z0 eP.out zB));(case side2=>exact eQ.out);rintro e w' ⟨rfl,⟨nd,rfl⟩⟩;(try first|exact ⟨rfl,_,World.drewN_drewN _ _ _⟩|exact ⟨rfl,_,Eq.trans (World.drewN_drewN _ _ _) (congrArg (World.drewN _) (Nat.add_assoc _ _ _))⟩)))
   repeat (go_quiet (first|(go_at_call 59;(with_reducible refine (spec_l1AddrOk.calls k1 aa ab false _ dE.out).mono ?_);rintro e kw ⟨rfl,hb⟩;replace ah:=zA (zq1 (zK ah.out) hb);replace HB:=zA (zq0 zB hb);clear hb;obtain ⟨_,_,_,_⟩:=zc4 ah.out;obtain ⟨_,_,_,_⟩:=zf4 ah.out)|(go_at_call 56;(with_reducible refine (spec_l1Null.calls aa ab true _ bu.out).mono ?_);rintro e mK ⟨rfl,hb⟩;replace ah:=zA (zq1 (zK ah.out) hb);replace HB:=zA (zq0 zB hb);clear hb;obtain ⟨_,_,_,_⟩:=zc4 ah.out;obtain ⟨_,_,_,_⟩:=zf4 ah.out)|(go_at_call 58;(with_reducible refine (spec_l1In.calls (af.length:Int) 1 4 true _ mJ.out).mono ?_);rintro e w' ⟨rfl,⟨nd,rfl⟩⟩;(try first|exact ⟨rfl,_,World.drewN_drewN _ _ _⟩|exact ⟨rfl,_,Eq.trans (World.drewN_drewN _ _ _) (congrArg (World.drewN _) (Nat.add_assoc _ _ _))⟩))|(go_at_call 107;(with_reducible refine (spec_l2BodyOk.calls k1 _ _ ap ca _ ?side1 ?side2 nI.out).mono ?_);(case side1=>exact zC (Kd.z0 eP.out zB));(case side2=>exact eQ.out);rintro e w' ⟨rfl,⟨nd,rfl⟩⟩;(try first|exact ⟨rfl,_,World.drewN_drewN _ _ _⟩|exact ⟨rfl,_,Eq.trans (World.drewN_drewN _ _ _) (congrArg (World.drewN _) (Nat.add_assoc _ _ _))⟩)));try go_wp2_with (first|(go_at_call 59;(with_reducible refine (spec_l1AddrOk.calls k1 aa ab false _ dE.out).mono ?_);rintro e kw ⟨rfl,hb⟩;replace ah:=zA (zq1 (zK ah.out) hb);replace HB:=zA (zq0 zB hb);clear hb;obtain ⟨_,_,_,_⟩:=zc4 ah.out;obtain ⟨_,_,_,_⟩:=zf4 ah.out)|(go_at_call 56;(with_reducible refine (spec_l1Null.calls aa ab true _ bu.out).mono ?_);rintro e mK ⟨rfl,hb⟩;replace ah:=zA (zq1 (zK ah.out) hb);replace HB:=zA (zq0 zB hb);clear hb;obtain ⟨_,_,_,_⟩:=zc4 ah.out;obtain ⟨_,_,_,_⟩:=zf4 ah.out)|(go_at_call 58;(with_reducible refine (spec_l1In.calls (af.length:Int) 1 4 true _ mJ.out).mono ?_);rintro e w' ⟨rfl,⟨nd,rfl⟩⟩;(try first|exact ⟨rfl,_,World.drewN_drewN _ _ _⟩|exact ⟨rfl,_,Eq.trans (World.drewN_drewN _ _ _) (congrArg (World.drewN _) (Nat.add_assoc _ _ _))⟩))|(go_at_call 107;(with_reducible refine (spec_l2BodyOk.calls k1 _ _ ap ca _ ?side1 ?side2 nI.out).mono ?_);(case side1=>exact zC (Kd.z0 eP.out zB));(case side2=>exact eQ.out);rintro e w' ⟨rfl,⟨nd,rfl⟩⟩;(try first|exact ⟨rfl,_,World.drewN_drewN _ _ _⟩|exact ⟨rfl,_,Eq.trans (World.drewN_drewN _ _ _) (congrArg (World.drewN _) (Nat.add_assoc _ _ _))⟩))))
   go_ret
   exact ⟨zT,zB⟩
end Go.Proofs.YtjdpdkdhfnpcgaaGreatDoor.Q
