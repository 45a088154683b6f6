/- Of a text of ours what this claim needs. -/
import Derived.Test.YtpeefjfklklhdaaDoorProg
import Derived.Below
import Derived.Deep.Draws
import Derived.Deep.AppendLies
import Derived.Maps.AppendAt
import Derived.OwnWalk
import Derived.Laws.BytesArg
import Derived.Laws.MakeOwn
import Derived.Laws.OwnMore
import Derived.Deep.OwnRows
import Derived.Tactics
import Derived.Lib.ConvBytes
import Derived.Laws.Slices
import Derived.WalkKit
import Derived.KernelRfl
import Derived.RowKit3
import Derived.Deep.LoopGhost
import Derived.Deep.QuietTactic
import Derived.BigQuiet
import Derived.WideLaws
import Derived.Deep.DeepCutAuto
import Derived.Deep.CutBlock
import Derived.Deep.RegionHeld3
import Derived.Laws.Rows
import Derived.Lib.AppendStr
import Derived.ArgAppend
import Derived.Laws.IdiomCopy
import Derived.OrdersHeld
import Derived.Laws.BitsLemmas
import Derived.RowKit
import Derived.Test.YtpeefjfklklhdaaDoorWWords
import Derived.Test.YtpeefjfklklhdaaDoorWLast
import Derived.Test.YtpeefjfklklhdaaDoorWTab
import Derived.Test.YtpeefjfklklhdaaDoorWFour
import Derived.Test.YtpeefjfklklhdaaDoorWQPut
import Derived.Test.YtpeefjfklklhdaaDoorWApart
import Derived.Test.YtpeefjfklklhdaaDoorWArr
import Derived.Test.YtpeefjfklklhdaaDoorWZeros
import Derived.Test.YtpeefjfklklhdaaDoorWFoot
import Derived.Test.YtpeefjfklklhdaaDoorWKept
import Derived.Test.YtpeefjfklklhdaaDoorWShare
import Derived.Test.YtpeefjfklklhdaaDoorWN
import Derived.Test.YtpeefjfklklhdaaDoorWFootNe
import Derived.Test.YtpeefjfklklhdaaDoorWAt
import Derived.Test.YtpeefjfklklhdaaDoorWEqStruct
import Derived.Test.YtpeefjfklklhdaaDoorWRepsOne
import Derived.Test.YtpeefjfklklhdaaDoorWInv
import Derived.Test.YtpeefjfklklhdaaDoorWInvWords
import Derived.Test.YtpeefjfklklhdaaDoorWGuard
import Derived.Test.YtpeefjfklklhdaaDoorWNEv
import Derived.Test.YtpeefjfklklhdaaDoorWMore
namespace Go.Proofs.YtpeefjfklklhdaaDoor.Q
open Go.RowKit Go.Proofs.YtpeefjfklklhdaaDoorW.PrintWords Go.Proofs.YtpeefjfklklhdaaDoorW.PrintLast Go.Proofs.YtpeefjfklklhdaaDoorW.PrintMore
attribute [local go_sem] max2_int min2_int max_two min_two max_three min_three max_four min_four
set_option linter.unusedVariables false
set_option linter.unusedSimpArgs false
def errW : Option Int → Value
  | none => .nilIface
  | some c => .iface 0 (.int .i64 c)
theorem errW_none : errW none = .nilIface := rfl
theorem errW_some (c : Int) : errW (some c) = .iface 0 (.int .i64 c) := rfl
theorem info5 : (Tryd.prog.info? 5).map (fun i => (i.zero, i.size, i.bytes)) = some (some (.int .u8 0), 1, 1) := by kernel_rfl
theorem info9 : (Tryd.prog.info? 9).map (fun i => (i.zero, i.size, i.bytes)) = some (some (.string ⟨#[]⟩), 1, 16) := by kernel_rfl
theorem sz1 (a0 : UInt8) : (⟨#[a0]⟩ : ByteArray).size = 1 := rfl
theorem sz2 (a0 a1 : UInt8) : (⟨#[a0, a1]⟩ : ByteArray).size = 2 := rfl
theorem sz3 (a0 a1 a2 : UInt8) : (⟨#[a0, a1, a2]⟩ : ByteArray).size = 3 := rfl
theorem sz4 (a0 a1 a2 a3 : UInt8) : (⟨#[a0, a1, a2, a3]⟩ : ByteArray).size = 4 := rfl
theorem sz5 (a0 a1 a2 a3 a4 : UInt8) : (⟨#[a0, a1, a2, a3, a4]⟩ : ByteArray).size = 5 := rfl
theorem sz6 (a0 a1 a2 a3 a4 a5 : UInt8) : (⟨#[a0, a1, a2, a3, a4, a5]⟩ : ByteArray).size = 6 := rfl
theorem sz7 (a0 a1 a2 a3 a4 a5 a6 : UInt8) : (⟨#[a0, a1, a2, a3, a4, a5, a6]⟩ : ByteArray).size = 7 := rfl
theorem sz8 (a0 a1 a2 a3 a4 a5 a6 a7 : UInt8) : (⟨#[a0, a1, a2, a3, a4, a5, a6, a7]⟩ : ByteArray).size = 8 := rfl
end Go.Proofs.YtpeefjfklklhdaaDoor.Q
