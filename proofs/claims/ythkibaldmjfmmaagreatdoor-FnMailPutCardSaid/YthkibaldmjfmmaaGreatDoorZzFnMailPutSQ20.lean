/- Of a text of ours what this claim needs. -/
import Derived.Test.YthkibaldmjfmmaaGreatDoorZzFnMailPutSQ0
import Derived.Test.YthkibaldmjfmmaaGreatDoorZzFnMailPutSQ10
import Derived.Test.YthkibaldmjfmmaaGreatDoorZzFnMailPutSQ11
namespace Go.Proofs.YthkibaldmjfmmaaGreatDoor.Q
open Go.RowKit Go.Proofs.YthkibaldmjfmmaaGreatDoorW.PrintWords Go.Proofs.YthkibaldmjfmmaaGreatDoorW.PrintLast Go.Proofs.YthkibaldmjfmmaaGreatDoorW.PrintMore
attribute [local go_sem] max2_int min2_int max_two min_two max_three min_three max_four min_four
set_option linter.unusedVariables false
set_option linter.unusedSimpArgs false
def spec_AddrGet.j0:Nat→ByteArray→Bool→Option (ByteArray × ByteArray × Bool)
 | 0,_,_=>none
 | k+1,x0,x24=>if x24=true then (some ((⟨#[]⟩:ByteArray),(⟨#[]⟩:ByteArray),false)) else (if 1≤(wrap64 ((x0.size:Int) - 1)) then (if (wrap64 ((x0.size:Int) - 1))≤(x0.size:Int) then ((spec_l1Cut.f k (x0.extract 1 ((wrap64 ((x0.size:Int) - 1)):Int).toNat) 64 2).bind fun t135=>(if (t135.length:Int)=2 then (if 0 < (t135.length:Int) then (if 1 < (t135.length:Int) then ((spec_l1AddrOk.f k (rdOf ByteArray.empty t135 0) (rdOf ByteArray.empty t135 1)).bind fun t141=>(if t141=true then (some (rdOf ByteArray.empty t135 0,rdOf ByteArray.empty t135 1,true)) else (some ((⟨#[]⟩:ByteArray),(⟨#[]⟩:ByteArray),false)))) else (none)) else (none)) else (some ((⟨#[]⟩:ByteArray),(⟨#[]⟩:ByteArray),false)))) else (none)) else (none))
def spec_AddrGet.f (k:Nat) (a0:ByteArray):Option (ByteArray × ByteArray × Bool):=if a0.toList=([60,62]:List UInt8) then (some ((⟨#[]⟩:ByteArray),(⟨#[]⟩:ByteArray),true)) else (if (a0.size:Int) < 2 then (spec_AddrGet.j0 k a0 true) else (if 0 < (a0.size:Int) then (if (bt a0 0)=60 then (if 0≤(wrap64 ((a0.size:Int) - 1)) then (if (wrap64 ((a0.size:Int) - 1)) < (a0.size:Int) then (spec_AddrGet.j0 k a0 ((bt a0 (wrap64 ((a0.size:Int) - 1))) != 62)) else (none)) else (none)) else (spec_AddrGet.j0 k a0 true)) else (none)))
end Go.Proofs.YthkibaldmjfmmaaGreatDoor.Q
