/- Of a text of ours what this claim needs. -/
import Derived.Test.YtjdpdkdhfnpcgaaGreatDoorZzFnExactNoteGetSQ0
import Derived.Test.YtjdpdkdhfnpcgaaGreatDoorZzFnExactNoteGetSAu
import Derived.Test.YtjdpdkdhfnpcgaaGreatDoorZzFnExactNoteGetSQ11
import Derived.Test.YtjdpdkdhfnpcgaaGreatDoorZzFnExactNoteGetSHSplit
namespace Go.Proofs.YtjdpdkdhfnpcgaaGreatDoor.Q
open Go.RowKit Go.Proofs.YtjdpdkdhfnpcgaaGreatDoorW.PrintWords Go.Proofs.YtjdpdkdhfnpcgaaGreatDoorW.PrintLast Go.Proofs.YtjdpdkdhfnpcgaaGreatDoorW.PrintMore
attribute [local go_sem] max2_int min2_int max_two min_two max_three min_three max_four min_four
set_option linter.unusedVariables false
set_option linter.unusedSimpArgs false
def slices_IndexFunc_impl_Addr_impl_Addr_at65.l0:Nat→List (S24)→Int→Int→Option (Int)
 | 0,_,_,_=>none
 | k+1,x0,x7,x8=>if x8 < x7 then (if 0≤x8 then (if x8 < (x0.length:Int) then ((impl_MailOk_1.f k ((zq6 x0 x8).f0) ((zq6 x0 x8).f1)).bind fun gh=>(if gh=true then (some x8) else (slices_IndexFunc_impl_Addr_impl_Addr_at65.l0 k x0 x7 (wrap64 (x8+1))))) else (none)) else (none)) else (some (-1))
def slices_IndexFunc_impl_Addr_impl_Addr_at65.f (k:Nat) (l0:List (S24)) :Option (Int):=slices_IndexFunc_impl_Addr_impl_Addr_at65.l0 k l0 (l0.length:Int) 0
set_option maxHeartbeats 8000000 in
set_option maxRecDepth 100000 in
theorem slices_IndexFunc_impl_Addr_impl_Addr_at65.calls (k:Nat) (A0:Option Addr) (c0:Nat) (l0:List (S24))  (r:Int) (w:World) (dr:Kd.C k24 w A0 l0.length l0) (dt:l0.length≤c0) (hG:GOK w) (h:slices_IndexFunc_impl_Addr_impl_Addr_at65.f k l0=some r) :
 Calls Tryz.prog 112 #[.slice A0 l0.length c0,.func (.func 65) #[] #[]] w fun e w'=>e=.returned (.int .i64 r)∧Below w.heap.size w w':=by
 have hu24:=Tryz.underlying24
 have cW:=zA dr
 have fH:=zA dt
 clear dr dt
 have HG:=zA hG
 clear hG
 have HB:=zA (Below.refl w.heap.size w)
 have H:(slices_IndexFunc_impl_Addr_impl_Addr_at65.l0 k l0 (l0.length:Int) 0)=some r:=h
 clear h
 have H':=zA H
 clear H
 go_enter Tryz.func112,Tryz.ntmps112
 go_wp2
 go_loopg [8] k (fun kq v8 w'=>∃ (aq:Int),v8=.int .i64 aq∧Aside0 (slices_IndexFunc_impl_Addr_impl_Addr_at65.l0 kq l0 (l0.length:Int) aq=some r)∧Aside0 (kq≤k)∧Aside0 (Below w.heap.size w w'))
 case atStart=>exact ⟨(0),zY3,H',⟨Nat.le_refl _⟩,⟨zB⟩⟩
 case round =>
  clear H'
  try clear p2
  obtain ⟨aq,rfl,HA,HK1,HB⟩:=hrel
  cases gk with
  | zero=>exact absurd HA.out (by simp [slices_IndexFunc_impl_Addr_impl_Addr_at65.l0])
  | succ k1 =>
   have H:=HA.out
   clear HA
   simp only [slices_IndexFunc_impl_Addr_impl_Addr_at65.l0] at H
   by_cases c3:aq < (l0.length:Int)
   rotate_left
   ·rw [if_neg c3] at H
    have c3b0:decide (aq < (l0.length:Int))=false:=decide_eq_false c3
    clear c3
    obtain rfl:=Option.some.inj H
    go_wp2
    go_ret
    exact ⟨zT,zB⟩
   rw [if_pos c3] at H
   have c3b0:decide (aq < (l0.length:Int))=true:=decide_eq_true c3
   clear c3
   obtain ⟨c4,H⟩:=zp H
   have c4b0:decide (0≤aq)=true:=decide_eq_true c4
   clear c4
   obtain ⟨c5,H⟩:=zp H
   have c5b0:decide (aq < (l0.length:Int))=true:=decide_eq_true c5
   clear c5
   replace H:=Option.bind_eq_some_iff.mp H
   obtain ⟨gh,es,H⟩:=H
   try dsimp only at H
   have A6:=zA es
   clear es
   by_cases c7:gh=true
   ·subst c7
    rw [if_pos rfl] at H
    obtain rfl:=Option.some.inj H
    have lQ:0≤(aq:Int):=of_decide_eq_true zY1
    have lR:aq < (l0.length:Int):=of_decide_eq_true zY1
    obtain ⟨D8,uw,lS,lT⟩:=at_T24 cW.out aq lQ lR
    cases uw
    replace lS:=(HB.out.cell (World.block_lt_of_cell? w _ lS)).trans lS
    replace lT:=(HB.out.cell (World.block_lt_of_cell? w _ lT)).trans lT
    replace lQ:=eq_true lQ
    replace lR:=eq_true lR
    go_wp2_with (first|(go_at_call 65;(with_reducible refine (impl_MailOk_1.calls k1 ((zq6 l0 aq).f0) ((zq6 l0 aq).f1) true _ ?side1 A6.out).mono ?_);(case side1=>exact zg);rintro e w8 ⟨rfl,hb⟩;replace HB:=zA (zq0 zB hb);clear hb))
    go_ret
    exact ⟨zT,zB⟩
   replace c7:=Bool.eq_false_iff.mpr c7
   subst c7
   rw [if_neg zfn] at H
   have H':=zA H
   clear H
   have lQ:0≤(aq:Int):=of_decide_eq_true zY1
   have lR:aq < (l0.length:Int):=of_decide_eq_true zY1
   obtain ⟨D8,uw,lS,lT⟩:=at_T24 cW.out aq lQ lR
   cases uw
   replace lS:=(HB.out.cell (World.block_lt_of_cell? w _ lS)).trans lS
   replace lT:=(HB.out.cell (World.block_lt_of_cell? w _ lT)).trans lT
   replace lQ:=eq_true lQ
   replace lR:=eq_true lR
   go_wp2_with (first|(go_at_call 65;(with_reducible refine (impl_MailOk_1.calls k1 ((zq6 l0 aq).f0) ((zq6 l0 aq).f1) false _ ?side1 A6.out).mono ?_);(case side1=>exact zg);rintro e w9 ⟨rfl,hb⟩;replace HB:=zA (zq0 zB hb);clear hb))
   go_roundg k1
   case measure=>have:=HK1.out;omega
   case rel=>exact ⟨(wrap64 (aq+1)),zY3,H',⟨by have:=HK1.out;omega⟩,⟨zB⟩⟩
def slices_ContainsFunc_impl_Addr_impl_Addr_at65.f (k:Nat) (l0:List (S24)) :Option (Bool):=(slices_IndexFunc_impl_Addr_impl_Addr_at65.f k l0).bind fun bO=>(some (decide (bO≥0)))
set_option maxHeartbeats 8000000 in
set_option maxRecDepth 100000 in
theorem slices_ContainsFunc_impl_Addr_impl_Addr_at65.calls (k:Nat) (A0:Option Addr) (c0:Nat) (l0:List (S24))  (r:Bool) (w:World) (dr:Kd.C k24 w A0 l0.length l0) (dt:l0.length≤c0) (hG:GOK w) (h:slices_ContainsFunc_impl_Addr_impl_Addr_at65.f k l0=some r) :
 Calls Tryz.prog 67 #[.slice A0 l0.length c0,.func (.func 65) #[] #[]] w fun e w'=>e=.returned (.bool r)∧Below w.heap.size w w':=by
 have cW:=zA dr
 have fH:=zA dt
 clear dr dt
 have HG:=zA hG
 clear hG
 have HB:=zA (Below.refl w.heap.size w)
 have H:((slices_IndexFunc_impl_Addr_impl_Addr_at65.f k l0).bind fun bO=>(some (decide (bO≥0))))=some r:=h
 clear h
 replace H:=Option.bind_eq_some_iff.mp H
 obtain ⟨bO,bu,H⟩:=H
 try dsimp only at H
 have A3:=zA bu
 clear bu
 obtain rfl:=Option.some.inj H
 go_enter Tryz.func67,Tryz.ntmps67
 go_wp2_with (first|((with_reducible refine zq2 (f:=112) rfl ?_);refine zq4 (some 7) rfl rfl Tryz.func112 zY2 rfl #[.slice A0 l0.length c0,.func (.func 65) #[] #[]] rfl zY0 ?_;(with_reducible refine (slices_IndexFunc_impl_Addr_impl_Addr_at65.calls k _ _ l0  bO _ ?side1 ?side2 ?side3 A3.out).mono ?_);(case side1=>exact zC cW.out);(case side2=>exact fH.out);(case side3=>exact zg);rintro e w4 ⟨rfl,hb⟩;refine ⟨_,rfl,?_⟩;replace HB:=zA (zq0 zB hb);clear hb))
 go_ret
 exact ⟨zT,zB⟩
def impl_isLine.l0:Nat→ByteArray→Int→Int→Option (Bool)
 | 0,_,_,_=>none
 | k+1,x0,x5,x6=>if x6 < x5 then (if 0≤x6 then (if x6 < (x0.size:Int) then (if (bt x0 x6) < 32 then (some false) else (if (bt x0 x6) > 126 then (some false) else (impl_isLine.l0 k x0 x5 (wrap64 (x6+1))))) else (none)) else (none)) else (some (decide ((x0.size:Int)≤40)))
def impl_isLine.f (k:Nat) (a0:ByteArray):Option (Bool):=impl_isLine.l0 k a0 (a0.size:Int) 0
set_option maxHeartbeats 8000000 in
set_option maxRecDepth 100000 in
theorem impl_isLine.calls (k:Nat) (a0:ByteArray) (r:Bool) (w:World) (h:impl_isLine.f k a0=some r) :
 Calls Tryz.prog 115 #[.string a0] w fun e w'=>e=.returned (.bool r)∧Drawn0 w w':=by
 have H:(impl_isLine.l0 k a0 (a0.size:Int) 0)=some r:=h
 clear h
 have H':=zA H
 clear H
 go_enter Tryz.func115,Tryz.ntmps115
 go_wp2
 go_loopg [6] k (fun kq v6 w'=>∃ (aM:Int),v6=.int .i64 aM∧Aside0 (impl_isLine.l0 kq a0 (a0.size:Int) aM=some r)∧Aside0 (kq≤k)∧Drawn0 w w')
 case atStart=>exact ⟨(0),zY3,H',⟨Nat.le_refl _⟩,by repeat (first|exact Drawn0.refl _|apply Drawn0.step)⟩
 case round =>
  clear H'
  try clear c1
  obtain ⟨aM,rfl,HA,HK1,⟨m1,rfl⟩⟩:=hrel
  cases gk with
  | zero=>exact absurd HA.out (by simp [impl_isLine.l0])
  | succ k1 =>
   have H:=HA.out
   clear HA
   simp only [impl_isLine.l0] at H
   by_cases c2:aM < (a0.size:Int)
   rotate_left
   ·rw [if_neg c2] at H
    have c2b0:decide (aM < (a0.size:Int))=false:=decide_eq_false c2
    clear c2
    obtain rfl:=Option.some.inj H
    go_wp2
    go_ret
    exact ⟨by first|rfl|(simp;done)|(simp [*];done),by repeat (first|exact Drawn0.refl _|apply Drawn0.step)⟩
   rw [if_pos c2] at H
   have c2b0:decide (aM < (a0.size:Int))=true:=decide_eq_true c2
   clear c2
   obtain ⟨c3,H⟩:=zp H
   have c3b0:decide (0≤aM)=true:=decide_eq_true c3
   clear c3
   obtain ⟨c4,H⟩:=zp H
   have c4b0:decide (aM < (a0.size:Int))=true:=decide_eq_true c4
   clear c4
   by_cases c6:(bt a0 aM) < 32
   ·rw [if_pos c6] at H
    have c6b0:decide ((bt a0 aM) < 32)=true:=decide_eq_true c6
    clear c6
    obtain rfl:=Option.some.inj H
    have p5:0≤(aM:Int):=of_decide_eq_true zY1
    have q5:aM < (a0.size:Int):=of_decide_eq_true zY1
    have y7:=bt_at a0 aM
    replace p5:=eq_true p5
    replace q5:=eq_true q5
    go_wp2
    go_ret
    exact ⟨by first|rfl|(simp;done)|(simp [*];done),by repeat (first|exact Drawn0.refl _|apply Drawn0.step)⟩
   rw [if_neg c6] at H
   have c6b0:decide ((bt a0 aM) < 32)=false:=decide_eq_false c6
   clear c6
   by_cases c8:(bt a0 aM) > 126
   ·rw [if_pos c8] at H
    have c8b0:decide (126 < (bt a0 aM))=true:=decide_eq_true c8
    clear c8
    obtain rfl:=Option.some.inj H
    have p5:0≤(aM:Int):=of_decide_eq_true zY1
    have q5:aM < (a0.size:Int):=of_decide_eq_true zY1
    have y7:=bt_at a0 aM
    replace p5:=eq_true p5
    replace q5:=eq_true q5
    have p7:0≤(aM:Int):=of_decide_eq_true zY1
    have q7:aM < (a0.size:Int):=of_decide_eq_true zY1
    have qr:=bt_at a0 aM
    replace p7:=eq_true p7
    replace q7:=eq_true q7
    go_wp2
    go_ret
    exact ⟨by first|rfl|(simp;done)|(simp [*];done),by repeat (first|exact Drawn0.refl _|apply Drawn0.step)⟩
   rw [if_neg c8] at H
   have c8b0:decide (126 < (bt a0 aM))=false:=decide_eq_false c8
   clear c8
   have H':=zA H
   clear H
   have p5:0≤(aM:Int):=of_decide_eq_true zY1
   have q5:aM < (a0.size:Int):=of_decide_eq_true zY1
   have y7:=bt_at a0 aM
   replace p5:=eq_true p5
   replace q5:=eq_true q5
   have p7:0≤(aM:Int):=of_decide_eq_true zY1
   have q7:aM < (a0.size:Int):=of_decide_eq_true zY1
   have qr:=bt_at a0 aM
   replace p7:=eq_true p7
   replace q7:=eq_true q7
   go_wp2
   go_roundg k1
   case measure=>have:=HK1.out;omega
   case rel=>exact ⟨(wrap64 (aM+1)),zY3,H',⟨by have:=HK1.out;omega⟩,by repeat (first|exact Drawn0.refl _|apply Drawn0.step)⟩
def impl_isBody_1.f (k:Nat) (a0:ByteArray):Option (Bool):=(impl_isLine.f k a0).bind fun bP=>(some (!bP))
set_option maxHeartbeats 8000000 in
set_option maxRecDepth 100000 in
theorem impl_isBody_1.calls (k:Nat) (a0:ByteArray) (r:Bool) (w:World) (h:impl_isBody_1.f k a0=some r) :
 Calls Tryz.prog 114 #[.string a0] w fun e w'=>e=.returned (.bool r)∧Drawn0 w w':=by
 have H:((impl_isLine.f k a0).bind fun bP=>(some (!bP)))=some r:=h
 clear h
 replace H:=Option.bind_eq_some_iff.mp H
 obtain ⟨bP,bv,H⟩:=H
 try dsimp only at H
 have A2:=zA bv
 clear bv
 obtain rfl:=Option.some.inj H
 go_enter Tryz.func114,Tryz.ntmps114
 go_wp2_with (first|((with_reducible refine zq2 (f:=115) rfl ?_);refine zq4 (some 4) rfl rfl Tryz.func115 zY2 rfl #[.string a0] rfl zY0 ?_;(with_reducible refine (impl_isLine.calls k a0 bP _ A2.out).mono ?_);rintro e w' ⟨rfl,⟨nd,rfl⟩⟩;refine ⟨_,rfl,?_⟩))
 go_ret
 exact ⟨by first|rfl|(simp;done)|(simp [*];done),by repeat (first|exact Drawn0.refl _|apply Drawn0.step)⟩
def slices_IndexFunc_string_string_at114.l0:Nat→List ByteArray→Int→Int→Option (Int)
 | 0,_,_,_=>none
 | k+1,x0,x7,x8=>if x8 < x7 then (if 0≤x8 then (if x8 < (x0.length:Int) then ((impl_isBody_1.f k (rdOf ByteArray.empty x0 x8)).bind fun bR=>(if bR=true then (some x8) else (slices_IndexFunc_string_string_at114.l0 k x0 x7 (wrap64 (x8+1))))) else (none)) else (none)) else (some (-1))
def slices_IndexFunc_string_string_at114.f (k:Nat) (l0:List ByteArray) :Option (Int):=slices_IndexFunc_string_string_at114.l0 k l0 (l0.length:Int) 0
set_option maxHeartbeats 8000000 in
set_option maxRecDepth 100000 in
theorem slices_IndexFunc_string_string_at114.calls (k:Nat) (A0:Option Addr) (c0:Nat) (l0:List ByteArray)  (r:Int) (w:World) (dr:Kd.C Kd.string w A0 l0.length l0) (dt:l0.length≤c0) (h:slices_IndexFunc_string_string_at114.f k l0=some r) :
 Calls Tryz.prog 148 #[.slice A0 l0.length c0,.func (.func 114) #[] #[]] w fun e w'=>e=.returned (.int .i64 r)∧Drawn0 w w':=by
 have cW:=zA dr
 have fH:=zA dt
 clear dr dt
 have H:(slices_IndexFunc_string_string_at114.l0 k l0 (l0.length:Int) 0)=some r:=h
 clear h
 have H':=zA H
 clear H
 go_enter Tryz.func148,Tryz.ntmps148
 go_wp2
 go_loopg [8] k (fun kq v8 w'=>∃ (aq:Int),v8=.int .i64 aq∧Aside0 (slices_IndexFunc_string_string_at114.l0 kq l0 (l0.length:Int) aq=some r)∧Aside0 (kq≤k)∧Drawn0 w w')
 case atStart=>exact ⟨(0),zY3,H',⟨Nat.le_refl _⟩,by repeat (first|exact Drawn0.refl _|apply Drawn0.step)⟩
 case round =>
  clear H'
  try clear p2
  obtain ⟨aq,rfl,HA,HK1,⟨m1,rfl⟩⟩:=hrel
  cases gk with
  | zero=>exact absurd HA.out (by simp [slices_IndexFunc_string_string_at114.l0])
  | succ k1 =>
   have H:=HA.out
   clear HA
   simp only [slices_IndexFunc_string_string_at114.l0] at H
   by_cases c3:aq < (l0.length:Int)
   rotate_left
   ·rw [if_neg c3] at H
    have c3b0:decide (aq < (l0.length:Int))=false:=decide_eq_false c3
    clear c3
    obtain rfl:=Option.some.inj H
    go_wp2
    go_ret
    exact ⟨by first|rfl|(simp;done)|(simp [*];done),by repeat (first|exact Drawn0.refl _|apply Drawn0.step)⟩
   rw [if_pos c3] at H
   have c3b0:decide (aq < (l0.length:Int))=true:=decide_eq_true c3
   clear c3
   obtain ⟨c4,H⟩:=zp H
   have c4b0:decide (0≤aq)=true:=decide_eq_true c4
   clear c4
   obtain ⟨c5,H⟩:=zp H
   have c5b0:decide (aq < (l0.length:Int))=true:=decide_eq_true c5
   clear c5
   replace H:=Option.bind_eq_some_iff.mp H
   obtain ⟨bR,es,H⟩:=H
   try dsimp only at H
   have A6:=zA es
   clear es
   by_cases c7:bR=true
   ·subst c7
    rw [if_pos rfl] at H
    obtain rfl:=Option.some.inj H
    have ep:0≤(aq:Int):=of_decide_eq_true zY1
    have er:aq < (l0.length:Int):=of_decide_eq_true zY1
    obtain ⟨ig,ii,ga⟩:=Kd.z11 cW.out aq ep er
    cases ii
    replace ep:=eq_true ep
    replace er:=eq_true er
    go_wp2_with (first|(go_at_call 114;(with_reducible refine (impl_isBody_1.calls k1 (rdOf ByteArray.empty l0 aq) true _ A6.out).mono ?_);rintro e w' ⟨rfl,⟨nd,rfl⟩⟩))
    go_ret
    exact ⟨by first|rfl|(simp;done)|(simp [*];done),by repeat (first|exact Drawn0.refl _|apply Drawn0.step)⟩
   replace c7:=Bool.eq_false_iff.mpr c7
   subst c7
   rw [if_neg zfn] at H
   have H':=zA H
   clear H
   have ep:0≤(aq:Int):=of_decide_eq_true zY1
   have er:aq < (l0.length:Int):=of_decide_eq_true zY1
   obtain ⟨ig,ii,ga⟩:=Kd.z11 cW.out aq ep er
   cases ii
   replace ep:=eq_true ep
   replace er:=eq_true er
   go_wp2_with (first|(go_at_call 114;(with_reducible refine (impl_isBody_1.calls k1 (rdOf ByteArray.empty l0 aq) false _ A6.out).mono ?_);rintro e w' ⟨rfl,⟨nd,rfl⟩⟩))
   go_roundg k1
   case measure=>have:=HK1.out;omega
   case rel=>exact ⟨(wrap64 (aq+1)),zY3,H',⟨by have:=HK1.out;omega⟩,by repeat (first|exact Drawn0.refl _|apply Drawn0.step)⟩
def slices_ContainsFunc_string_string_at114.f (k:Nat) (l0:List ByteArray) :Option (Bool):=(slices_IndexFunc_string_string_at114.f k l0).bind fun gh=>(some (decide (gh≥0)))
set_option maxHeartbeats 8000000 in
set_option maxRecDepth 100000 in
theorem slices_ContainsFunc_string_string_at114.calls (k:Nat) (A0:Option Addr) (c0:Nat) (l0:List ByteArray)  (r:Bool) (w:World) (dr:Kd.C Kd.string w A0 l0.length l0) (dt:l0.length≤c0) (h:slices_ContainsFunc_string_string_at114.f k l0=some r) :
 Calls Tryz.prog 113 #[.slice A0 l0.length c0,.func (.func 114) #[] #[]] w fun e w'=>e=.returned (.bool r)∧Drawn0 w w':=by
 have cW:=zA dr
 have fH:=zA dt
 clear dr dt
 have H:((slices_IndexFunc_string_string_at114.f k l0).bind fun gh=>(some (decide (gh≥0))))=some r:=h
 clear h
 replace H:=Option.bind_eq_some_iff.mp H
 obtain ⟨gh,bu,H⟩:=H
 try dsimp only at H
 have A3:=zA bu
 clear bu
 obtain rfl:=Option.some.inj H
 go_enter Tryz.func113,Tryz.ntmps113
 go_wp2_with (first|((with_reducible refine zq2 (f:=148) rfl ?_);refine zq4 (some 7) rfl rfl Tryz.func148 zY2 rfl #[.slice A0 l0.length c0,.func (.func 114) #[] #[]] rfl zY0 ?_;(with_reducible refine (slices_IndexFunc_string_string_at114.calls k _ _ l0  gh _ ?side1 ?side2 A3.out).mono ?_);(case side1=>exact zC cW.out);(case side2=>exact fH.out);rintro e w' ⟨rfl,⟨nd,rfl⟩⟩;refine ⟨_,rfl,?_⟩))
 go_ret
 exact ⟨by first|rfl|(simp;done)|(simp [*];done),by repeat (first|exact Drawn0.refl _|apply Drawn0.step)⟩
end Go.Proofs.YtjdpdkdhfnpcgaaGreatDoor.Q
