/- Of a text of ours what this claim needs. -/
import Derived.Test.YtjdpdkdhfnpcgaaGreatDoorZzFnExactNoteGetSQ0
import Derived.Test.YtjdpdkdhfnpcgaaGreatDoorZzFnExactNoteGetSAu
import Derived.Test.YtjdpdkdhfnpcgaaGreatDoorZzFnExactNoteGetSQ8
namespace Go.Proofs.YtjdpdkdhfnpcgaaGreatDoor.Q
open Go.RowKit Go.Proofs.YtjdpdkdhfnpcgaaGreatDoorW.PrintWords Go.Proofs.YtjdpdkdhfnpcgaaGreatDoorW.PrintLast Go.Proofs.YtjdpdkdhfnpcgaaGreatDoorW.PrintMore
attribute [local go_sem] max2_int min2_int max_two min_two max_three min_three max_four min_four
set_option linter.unusedVariables false
set_option linter.unusedSimpArgs false
def spec_l2Dots.l0:Nat→List ByteArray→ByteArray→Int→Option (ByteArray)
 | 0,_,_,_=>none
 | k+1,x0,x3,x4=>if x4 < (x0.length:Int) then (if 0≤x4 then (if (rdOf ByteArray.empty x0 x4).toList=([]:List UInt8) then (if x3.size+(rdOf ByteArray.empty x0 x4).size≤9223372036854775807 then (if (x3++(rdOf ByteArray.empty x0 x4)).size+2≤9223372036854775807 then (spec_l2Dots.l0 k x0 ((x3++(rdOf ByteArray.empty x0 x4))++(⟨#[13,10]⟩:ByteArray)) (wrap64 (x4+1))) else (none)) else (none)) else (if 0 < ((rdOf ByteArray.empty x0 x4).size:Int) then (if (bt (rdOf ByteArray.empty x0 x4) 0)=46 then (if 1+(rdOf ByteArray.empty x0 x4).size≤9223372036854775807 then (if x3.size+((⟨#[46]⟩:ByteArray)++(rdOf ByteArray.empty x0 x4)).size≤9223372036854775807 then (if (x3++((⟨#[46]⟩:ByteArray)++(rdOf ByteArray.empty x0 x4))).size+2≤9223372036854775807 then (spec_l2Dots.l0 k x0 ((x3++((⟨#[46]⟩:ByteArray)++(rdOf ByteArray.empty x0 x4)))++(⟨#[13,10]⟩:ByteArray)) (wrap64 (x4+1))) else (none)) else (none)) else (none)) else (if x3.size+(rdOf ByteArray.empty x0 x4).size≤9223372036854775807 then (if (x3++(rdOf ByteArray.empty x0 x4)).size+2≤9223372036854775807 then (spec_l2Dots.l0 k x0 ((x3++(rdOf ByteArray.empty x0 x4))++(⟨#[13,10]⟩:ByteArray)) (wrap64 (x4+1))) else (none)) else (none))) else (none))) else (none)) else (if x3.size+3≤9223372036854775807 then (some (x3++(⟨#[46,13,10]⟩:ByteArray))) else (none))
def spec_l2Dots.f (k:Nat) (l0:List ByteArray):Option (ByteArray):=spec_l2Dots.l0 k l0 (⟨#[]⟩:ByteArray) 0
set_option maxHeartbeats 8000000 in
set_option maxRecDepth 100000 in
theorem spec_l2Dots.calls (k:Nat) (A0:Option Addr) (c0:Nat) (l0:List ByteArray) (r:ByteArray) (w:World) (dr:Kd.C Kd.string w A0 l0.length l0) (dt:l0.length≤c0) (h:spec_l2Dots.f k l0=some r) :
 Calls Tryz.prog 110 #[.slice A0 l0.length c0] w fun e w'=>e=.returned (.string r)∧Drawn0 w w':=by
 have cW:=zA dr
 have fH:=zA dt
 clear dr dt
 have H:(spec_l2Dots.l0 k l0 bz0 0)=some r:=h
 clear h
 have H':=zA H
 clear H
 go_enter Tryz.func110,Tryz.ntmps110
 go_wp2
 go_loopg [3,4] k (fun kq v3 v4 w'=>∃ (ac:ByteArray) (ak:Int),v3=.string ac∧v4=.int .i64 ak∧Aside0 (spec_l2Dots.l0 kq l0 ac ak=some r)∧Aside0 (kq≤k)∧Drawn0 w w')
 case atStart=>exact ⟨(bz0),(0),zY3,zY3,H',⟨Nat.le_refl _⟩,by repeat (first|exact Drawn0.refl _|apply Drawn0.step)⟩
 case round =>
  clear H'
  try clear c1
  obtain ⟨ac,ak,rfl,rfl,HA,HK1,⟨m1,rfl⟩⟩:=hrel
  cases gk with
  | zero=>exact absurd HA.out (by simp [spec_l2Dots.l0])
  | succ k1 =>
   have H:=HA.out
   clear HA
   simp only [spec_l2Dots.l0] at H
   by_cases c2:ak < (l0.length:Int)
   rotate_left
   ·rw [if_neg c2] at H
    have c2b0:decide (ak < (l0.length:Int))=false:=decide_eq_false c2
    clear c2
    obtain ⟨bW,H⟩:=zp H
    have c15b0:=eq_true bW
    have c15b1:decide (ac.size+3≤9223372036854775807)=true:=decide_eq_true bW
    try have c15b2:(9223372036854775807 < ac.size+3)=False:=eq_false (Nat.not_lt.2 bW)
    obtain rfl:=Option.some.inj H
    go_wp2
    go_ret
    exact ⟨by first|rfl|(simp;done)|(simp [*];done),by repeat (first|exact Drawn0.refl _|apply Drawn0.step)⟩
   rw [if_pos c2] at H
   have c2b0:decide (ak < (l0.length:Int))=true:=decide_eq_true c2
   clear c2
   obtain ⟨c3,H⟩:=zp H
   have c3b0:decide (0≤ak)=true:=decide_eq_true c3
   clear c3
   by_cases c4:(rdOf ByteArray.empty l0 ak).toList=([]:List UInt8)
   ·rw [if_pos c4] at H
    have c4b0:((rdOf ByteArray.empty l0 ak).toList==([]:List UInt8))=true:=beq_iff_eq.mpr c4
    have c4b1:((rdOf ByteArray.empty l0 ak).toList != ([]:List UInt8))=false:=bne_eq_false_iff_eq.mpr c4
    clear c4
    obtain ⟨c5,H⟩:=zp H
    have c5b0:=eq_true c5
    have c5b1:decide (ac.size+(rdOf ByteArray.empty l0 ak).size≤9223372036854775807)=true:=decide_eq_true c5
    try have c5b2:(9223372036854775807 < ac.size+(rdOf ByteArray.empty l0 ak).size)=False:=eq_false (Nat.not_lt.2 c5)
    obtain ⟨c6,H⟩:=zp H
    have c6b0:=eq_true c6
    have c6b1:decide ((ac++(rdOf ByteArray.empty l0 ak)).size+2≤9223372036854775807)=true:=decide_eq_true c6
    try have c6b2:(9223372036854775807 < (ac++(rdOf ByteArray.empty l0 ak)).size+2)=False:=eq_false (Nat.not_lt.2 c6)
    try have c6b3:=c6
    try simp only [ByteArray.size_append',sz1,sz2,sz3,sz4,sz5,sz6,sz7,sz8] at c6b3
    try have c6b4:=eq_true c6b3
    try have c6b5:=eq_false (Nat.not_lt.2 c6b3)
    have H':=zA H
    clear H
    have du:0≤(ak:Int):=of_decide_eq_true zY1
    have dv:ak < (l0.length:Int):=of_decide_eq_true zY1
    obtain ⟨gw,fJ,fx⟩:=Kd.z11 cW.out ak du dv
    cases fJ
    replace du:=eq_true du
    replace dv:=eq_true dv
    go_wp2
    go_roundg k1
    case measure=>have:=HK1.out;omega
    case rel=>exact ⟨((ac++(rdOf ByteArray.empty l0 ak))++bz5),(wrap64 (ak+1)),zY3,zY3,H',⟨by have:=HK1.out;omega⟩,by repeat (first|exact Drawn0.refl _|apply Drawn0.step)⟩
   rw [if_neg c4] at H
   have c4b0:((rdOf ByteArray.empty l0 ak).toList==([]:List UInt8))=false:=beq_eq_false_iff_ne.mpr c4
   have c4b1:((rdOf ByteArray.empty l0 ak).toList != ([]:List UInt8))=true:=bne_iff_ne.mpr c4
   obtain ⟨c7,H⟩:=zp H
   have c7b0:decide (0 < ((rdOf ByteArray.empty l0 ak).size:Int))=true:=decide_eq_true c7
   have c7b1:decide (0 < (rdOf ByteArray.empty l0 ak).size)=true:=decide_eq_true zY6
   clear c7
   by_cases c9:(bt (rdOf ByteArray.empty l0 ak) 0)=46
   rotate_left
   ·rw [if_neg c9] at H
    have c9b0:((bt (rdOf ByteArray.empty l0 ak) 0)==46)=false:=beq_eq_false_iff_ne.mpr c9
    have c9b1:((bt (rdOf ByteArray.empty l0 ak) 0) != 46)=true:=bne_iff_ne.mpr c9
    obtain ⟨bj,H⟩:=zp H
    have c13b0:=eq_true bj
    have c13b1:decide (ac.size+(rdOf ByteArray.empty l0 ak).size≤9223372036854775807)=true:=decide_eq_true bj
    try have c13b2:(9223372036854775807 < ac.size+(rdOf ByteArray.empty l0 ak).size)=False:=eq_false (Nat.not_lt.2 bj)
    obtain ⟨bB,H⟩:=zp H
    have c14b0:=eq_true bB
    have c14b1:decide ((ac++(rdOf ByteArray.empty l0 ak)).size+2≤9223372036854775807)=true:=decide_eq_true bB
    try have c14b2:(9223372036854775807 < (ac++(rdOf ByteArray.empty l0 ak)).size+2)=False:=eq_false (Nat.not_lt.2 bB)
    try have c14b3:=bB
    try simp only [ByteArray.size_append',sz1,sz2,sz3,sz4,sz5,sz6,sz7,sz8] at c14b3
    try have c14b4:=eq_true c14b3
    try have c14b5:=eq_false (Nat.not_lt.2 c14b3)
    have H':=zA H
    clear H
    have du:0≤(ak:Int):=of_decide_eq_true zY1
    have dv:ak < (l0.length:Int):=of_decide_eq_true zY1
    obtain ⟨gw,fJ,fx⟩:=Kd.z11 cW.out ak du dv
    cases fJ
    replace du:=eq_true du
    replace dv:=eq_true dv
    have p8:0≤(0:Int):=zY6
    have q8:0 < (rdOf ByteArray.empty l0 ak).size:=(by have:(0:Int) < ((rdOf ByteArray.empty l0 ak).size:Int):=of_decide_eq_true zY1;omega)
    have sY:∀ h:0 < (rdOf ByteArray.empty l0 ak).size,(((rdOf ByteArray.empty l0 ak)[0]'h).toNat:Int)=bt (rdOf ByteArray.empty l0 ak) 0:=bt_at (rdOf ByteArray.empty l0 ak) 0
    clear p8
    have qi8:(0 < ((rdOf ByteArray.empty l0 ak).size:Int))=True:=eq_true (of_decide_eq_true zY1)
    replace q8:=eq_true q8
    go_wp2
    go_roundg k1
    case measure=>have:=HK1.out;omega
    case rel=>exact ⟨((ac++(rdOf ByteArray.empty l0 ak))++bz5),(wrap64 (ak+1)),zY3,zY3,H',⟨by have:=HK1.out;omega⟩,by repeat (first|exact Drawn0.refl _|apply Drawn0.step)⟩
   rw [if_pos c9] at H
   have c9b0:((bt (rdOf ByteArray.empty l0 ak) 0)==46)=true:=beq_iff_eq.mpr c9
   have c9b1:((bt (rdOf ByteArray.empty l0 ak) 0) != 46)=false:=bne_eq_false_iff_eq.mpr c9
   clear c9
   obtain ⟨ce,H⟩:=zp H
   have c10b0:=eq_true ce
   have c10b1:decide (1+(rdOf ByteArray.empty l0 ak).size≤9223372036854775807)=true:=decide_eq_true ce
   try have c10b2:(9223372036854775807 < 1+(rdOf ByteArray.empty l0 ak).size)=False:=eq_false (Nat.not_lt.2 ce)
   obtain ⟨dI,H⟩:=zp H
   have c11b0:=eq_true dI
   have c11b1:decide (ac.size+(bz12++(rdOf ByteArray.empty l0 ak)).size≤9223372036854775807)=true:=decide_eq_true dI
   try have c11b2:(9223372036854775807 < ac.size+(bz12++(rdOf ByteArray.empty l0 ak)).size)=False:=eq_false (Nat.not_lt.2 dI)
   try have c11b3:=dI
   try simp only [ByteArray.size_append',sz1,sz2,sz3,sz4,sz5,sz6,sz7,sz8] at c11b3
   try have c11b4:=eq_true c11b3
   try have c11b5:=eq_false (Nat.not_lt.2 c11b3)
   obtain ⟨bH,H⟩:=zp H
   have c12b0:=eq_true bH
   have c12b1:decide ((ac++(bz12++(rdOf ByteArray.empty l0 ak))).size+2≤9223372036854775807)=true:=decide_eq_true bH
   try have c12b2:(9223372036854775807 < (ac++(bz12++(rdOf ByteArray.empty l0 ak))).size+2)=False:=eq_false (Nat.not_lt.2 bH)
   try have c12b3:=bH
   try simp only [ByteArray.size_append',sz1,sz2,sz3,sz4,sz5,sz6,sz7,sz8] at c12b3
   try have c12b4:=eq_true c12b3
   try have c12b5:=eq_false (Nat.not_lt.2 c12b3)
   have H':=zA H
   clear H
   have du:0≤(ak:Int):=of_decide_eq_true zY1
   have dv:ak < (l0.length:Int):=of_decide_eq_true zY1
   obtain ⟨gw,fJ,fx⟩:=Kd.z11 cW.out ak du dv
   cases fJ
   replace du:=eq_true du
   replace dv:=eq_true dv
   have p8:0≤(0:Int):=zY6
   have q8:0 < (rdOf ByteArray.empty l0 ak).size:=(by have:(0:Int) < ((rdOf ByteArray.empty l0 ak).size:Int):=of_decide_eq_true zY1;omega)
   have sY:∀ h:0 < (rdOf ByteArray.empty l0 ak).size,(((rdOf ByteArray.empty l0 ak)[0]'h).toNat:Int)=bt (rdOf ByteArray.empty l0 ak) 0:=bt_at (rdOf ByteArray.empty l0 ak) 0
   clear p8
   have qi8:(0 < ((rdOf ByteArray.empty l0 ak).size:Int))=True:=eq_true (of_decide_eq_true zY1)
   replace q8:=eq_true q8
   go_wp2
   go_roundg k1
   case measure=>have:=HK1.out;omega
   case rel=>exact ⟨((ac++(bz12++(rdOf ByteArray.empty l0 ak)))++bz5),(wrap64 (ak+1)),zY3,zY3,H',⟨by have:=HK1.out;omega⟩,by repeat (first|exact Drawn0.refl _|apply Drawn0.step)⟩
def spec_l2Put.l0:Nat→ByteArray→Int→ByteArray→ByteArray→List (S24)→List ByteArray→Option (ByteArray)
 | 0,_,_,_,_,_,_=>none
 | k+1,x3,x4,nZ,uu,mM,qq=>if x4 < (mM.length:Int) then (if x3.size+3≤9223372036854775807 then (if 0≤x4 then ((spec_l1Put.f ((zq6 mM x4).f0) ((zq6 mM x4).f1)).bind fun bO=>(if (x3++(⟨#[116,111,32]⟩:ByteArray)).size+bO.size≤9223372036854775807 then (if ((x3++(⟨#[116,111,32]⟩:ByteArray))++bO).size+2≤9223372036854775807 then (spec_l2Put.l0 k (((x3++(⟨#[116,111,32]⟩:ByteArray))++bO)++(⟨#[13,10]⟩:ByteArray)) (wrap64 (x4+1)) nZ uu mM qq) else (none)) else (none))) else (none)) else (none)) else (if x3.size+2≤9223372036854775807 then ((spec_l2Dots.f k qq).bind fun dN=>(if (x3++(⟨#[13,10]⟩:ByteArray)).size+dN.size≤9223372036854775807 then (some ((x3++(⟨#[13,10]⟩:ByteArray))++dN)) else (none))) else (none))
def spec_l2Put.f (k:Nat) (aa:ByteArray) (ab:ByteArray) (af:List (S24)) (ap:List ByteArray):Option (ByteArray):=(spec_l1Put.f aa ab).bind fun bR=>(if 5+bR.size≤9223372036854775807 then (if ((⟨#[102,114,111,109,32]⟩:ByteArray)++bR).size+2≤9223372036854775807 then (spec_l2Put.l0 k (((⟨#[102,114,111,109,32]⟩:ByteArray)++bR)++(⟨#[13,10]⟩:ByteArray)) 0 aa ab af ap) else (none)) else (none))
set_option maxHeartbeats 8000000 in
set_option maxRecDepth 100000 in
theorem spec_l2Put.calls (k:Nat) (aa:ByteArray) (ab:ByteArray) (b9:Option Addr) (b4:Nat) (af:List (S24)) (b5:Option Addr) (b6:Nat) (ap:List ByteArray) (r:ByteArray) (w:World) (eX:Kd.C k24 w b9 af.length af) (eY:af.length≤b4) (eZ:Kd.C Kd.string w b5 ap.length ap) (e5:ap.length≤b6) (h:spec_l2Put.f k aa ab af ap=some r) :
 Calls Tryz.prog 61 #[.agg #[.string aa,.string ab,.slice b9 af.length b4,.slice b5 ap.length b6]] w fun e w'=>e=.returned (.string r)∧Below w.heap.size w w':=by
 have hu28:=Tryz.underlying28
 have hu24:=Tryz.underlying24
 have d6:=zA eX
 have fe:=zA eY
 clear eX eY
 have eP:=zA eZ
 have eQ:=zA e5
 clear eZ e5
 have HB:=zA (Below.refl w.heap.size w)
 have H:((spec_l1Put.f aa ab).bind fun bR=>(if 5+bR.size≤9223372036854775807 then (if (bz8++bR).size+2≤9223372036854775807 then (spec_l2Put.l0 k ((bz8++bR)++bz5) 0 aa ab af ap) else (none)) else (none)))=some r:=h
 clear h
 replace H:=Option.bind_eq_some_iff.mp H
 obtain ⟨bR,bv,H⟩:=H
 try dsimp only at H
 have A2:=zA bv
 clear bv
 obtain ⟨c3,H⟩:=zp H
 have c3b0:=eq_true c3
 have c3b1:decide (5+bR.size≤9223372036854775807)=true:=decide_eq_true c3
 try have c3b2:(9223372036854775807 < 5+bR.size)=False:=eq_false (Nat.not_lt.2 c3)
 obtain ⟨c4,H⟩:=zp H
 have c4b0:=eq_true c4
 have c4b1:decide ((bz8++bR).size+2≤9223372036854775807)=true:=decide_eq_true c4
 try have c4b2:(9223372036854775807 < (bz8++bR).size+2)=False:=eq_false (Nat.not_lt.2 c4)
 try have c4b3:=c4
 try simp only [ByteArray.size_append',sz1,sz2,sz3,sz4,sz5,sz6,sz7,sz8] at c4b3
 try have c4b4:=eq_true c4b3
 try have c4b5:=eq_false (Nat.not_lt.2 c4b3)
 have H':=zA H
 clear H
 go_enter Tryz.func61,Tryz.ntmps61
 go_wp2_with (first|((with_reducible refine zq5 (N:=1) rfl ?_);refine zE (N:=1) (cs:=#[.string aa,.string ab,.slice b9 af.length b4,.slice b5 ap.length b6]) (t:=28) ?_;intro dH hg w5 hbox hb;have aN:=zA hbox;have lc:=zA (zS hg:w.heap.size≤dH);have ld:=zA (zS hg:w.heap.size≤dH);replace HB:=zA (zq0 zB hb);clear hb hbox hg;obtain ⟨DX,DY,DZ,D0⟩:=zc4 aN.out;obtain ⟨D1,D2,D3,D4⟩:=zf4 aN.out)|((with_reducible refine zq2 (f:=62) rfl ?_);refine zq4 (some 7) rfl rfl Tryz.func62 zY2 rfl #[.agg #[.string aa,.string ab]] rfl zY0 ?_;(with_reducible refine (spec_l1Put.calls aa ab bR _ A2.out).mono ?_);rintro e w7 ⟨rfl,hb⟩;refine ⟨_,rfl,?_⟩;replace aN:=zA (zq1 (zK aN.out) hb);replace HB:=zA (zq0 zB hb);clear hb))
 go_loopg [3,4] k (fun kq v3 v4 w'=>∃ (ac:ByteArray) (ak:Int),v3=.string ac∧v4=.int .i64 ak∧Aside0 (spec_l2Put.l0 kq ac ak aa ab af ap=some r)∧Aside0 (kq≤k)∧Aside0 (w'.heap[dH]?=some (.cells #[.string aa,.string ab,(.slice b9 af.length b4),(.slice b5 ap.length b6)] 28 (0,0)))∧Aside0 (Below w.heap.size w w'))
 case atStart=>exact ⟨((bz8++bR)++bz5),(0),zY3,zY3,H',⟨Nat.le_refl _⟩,⟨zK aN.out⟩,⟨zB⟩⟩
 case round =>
  clear H'
  try clear p2
  try clear c3
  try clear c3b0
  try clear c3b1
  try clear c3b2
  try clear c4
  try clear c4b0
  try clear c4b1
  try clear c4b2
  try clear c6
  try clear DX DY DZ D0
  try clear D1 D2 D3 D4
  obtain ⟨ac,ak,rfl,rfl,HA,HK1,aN,HB⟩:=hrel
  cases gk with
  | zero=>exact absurd HA.out (by simp [spec_l2Put.l0])
  | succ k1 =>
   have H:=HA.out
   clear HA
   simp only [spec_l2Put.l0] at H
   by_cases c8:ak < (af.length:Int)
   rotate_left
   ·rw [if_neg c8] at H
    have c8b0:decide (ak < (af.length:Int))=false:=decide_eq_false c8
    clear c8
    obtain ⟨ck,H⟩:=zp H
    have c16b0:=eq_true ck
    have c16b1:decide (ac.size+2≤9223372036854775807)=true:=decide_eq_true ck
    try have c16b2:(9223372036854775807 < ac.size+2)=False:=eq_false (Nat.not_lt.2 ck)
    replace H:=Option.bind_eq_some_iff.mp H
    obtain ⟨dN,e8,H⟩:=H
    try dsimp only at H
    have et:=zA e8
    clear e8
    obtain ⟨bK,H⟩:=zp H
    have c18b0:=eq_true bK
    have c18b1:decide ((ac++bz5).size+dN.size≤9223372036854775807)=true:=decide_eq_true bK
    try have c18b2:(9223372036854775807 < (ac++bz5).size+dN.size)=False:=eq_false (Nat.not_lt.2 bK)
    try have c18b3:=bK
    try simp only [ByteArray.size_append',sz1,sz2,sz3,sz4,sz5,sz6,sz7,sz8] at c18b3
    try have c18b4:=eq_true c18b3
    try have c18b5:=eq_false (Nat.not_lt.2 c18b3)
    obtain rfl:=Option.some.inj H
    obtain ⟨_,_,_,_⟩:=zc4 aN.out
    obtain ⟨_,_,_,_⟩:=zf4 aN.out
    go_wp2_with (first|((with_reducible refine zq2 (f:=110) rfl ?_);refine zq4 (some 31) rfl rfl Tryz.func110 zY2 rfl #[.slice b5 ap.length b6] rfl zY0 ?_;(with_reducible refine (spec_l2Dots.calls k1 _ _ ap dN _ ?side1 ?side2 et.out).mono ?_);(case side1=>exact zC (Kd.z0 eP.out HB.out));(case side2=>exact eQ.out);rintro e w' ⟨rfl,⟨nd,rfl⟩⟩;refine ⟨_,rfl,?_⟩))
    go_ret
    exact ⟨zT,zB⟩
   rw [if_pos c8] at H
   have c8b0:decide (ak < (af.length:Int))=true:=decide_eq_true c8
   clear c8
   obtain ⟨c9,H⟩:=zp H
   have c9b0:=eq_true c9
   have c9b1:decide (ac.size+3≤9223372036854775807)=true:=decide_eq_true c9
   try have c9b2:(9223372036854775807 < ac.size+3)=False:=eq_false (Nat.not_lt.2 c9)
   obtain ⟨ce,H⟩:=zp H
   have c10b0:decide (0≤ak)=true:=decide_eq_true ce
   clear ce
   replace H:=Option.bind_eq_some_iff.mp H
   obtain ⟨bO,kJ,H⟩:=H
   try dsimp only at H
   have lL:=zA kJ
   clear kJ
   obtain ⟨bH,H⟩:=zp H
   have c12b0:=eq_true bH
   have c12b1:decide ((ac++bz9).size+bO.size≤9223372036854775807)=true:=decide_eq_true bH
   try have c12b2:(9223372036854775807 < (ac++bz9).size+bO.size)=False:=eq_false (Nat.not_lt.2 bH)
   try have c12b3:=bH
   try simp only [ByteArray.size_append',sz1,sz2,sz3,sz4,sz5,sz6,sz7,sz8] at c12b3
   try have c12b4:=eq_true c12b3
   try have c12b5:=eq_false (Nat.not_lt.2 c12b3)
   obtain ⟨bj,H⟩:=zp H
   have c13b0:=eq_true bj
   have c13b1:decide (((ac++bz9)++bO).size+2≤9223372036854775807)=true:=decide_eq_true bj
   try have c13b2:(9223372036854775807 < ((ac++bz9)++bO).size+2)=False:=eq_false (Nat.not_lt.2 bj)
   try have c13b3:=bj
   try simp only [ByteArray.size_append',sz1,sz2,sz3,sz4,sz5,sz6,sz7,sz8] at c13b3
   try have c13b4:=eq_true c13b3
   try have c13b5:=eq_false (Nat.not_lt.2 c13b3)
   have H':=zA H
   clear H
   obtain ⟨_,_,_,_⟩:=zc4 aN.out
   obtain ⟨_,_,_,_⟩:=zf4 aN.out
   have ei:0≤(ak:Int):=of_decide_eq_true zY1
   have ej:ak < (af.length:Int):=of_decide_eq_true zY1
   obtain ⟨ip,iq,fC,f3⟩:=at_T24 d6.out ak ei ej
   cases iq
   replace fC:=(HB.out.cell (World.block_lt_of_cell? w _ fC)).trans fC
   replace f3:=(HB.out.cell (World.block_lt_of_cell? w _ f3)).trans f3
   replace ei:=eq_true ei
   replace ej:=eq_true ej
   go_wp2_with (first|((with_reducible refine zq2 (f:=62) rfl ?_);refine zq4 (some 24) rfl rfl Tryz.func62 zY2 rfl #[.agg #[.string ((zq6 af ak).f0),.string ((zq6 af ak).f1)]] rfl zY0 ?_;(with_reducible refine (spec_l1Put.calls ((zq6 af ak).f0) ((zq6 af ak).f1) bO _ lL.out).mono ?_);rintro e ic ⟨rfl,hb⟩;refine ⟨_,rfl,?_⟩;replace aN:=zA (zq1 (zK aN.out) hb);replace HB:=zA (zq0 zB hb);clear hb))
   go_roundg k1
   case measure=>have:=HK1.out;omega
   case rel=>exact ⟨(((ac++bz9)++bO)++bz5),(wrap64 (ak+1)),zY3,zY3,H',⟨by have:=HK1.out;omega⟩,⟨zK aN.out⟩,⟨zB⟩⟩
end Go.Proofs.YtjdpdkdhfnpcgaaGreatDoor.Q
