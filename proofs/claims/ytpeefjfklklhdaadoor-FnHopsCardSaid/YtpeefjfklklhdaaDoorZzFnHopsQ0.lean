/- Of a text of ours what this claim needs. -/
import Derived.Test.YtpeefjfklklhdaaDoorProg
import Derived.Below
import Derived.Deep.Draws
import Derived.Deep.AppendLies
import Derived.Maps.AppendAt
import Derived.OwnWalk
import Derived.Laws.BytesArg
import Derived.Laws.MakeOwn
import Derived.Laws.OwnMore
import Derived.Deep.OwnRows
import Derived.Tactics
import Derived.Lib.ConvBytes
import Derived.Laws.Slices
import Derived.WalkKit
import Derived.KernelRfl
import Derived.RowKit3
import Derived.Deep.LoopGhost
import Derived.Deep.QuietTactic
import Derived.BigQuiet
import Derived.WideLaws
import Derived.Deep.DeepCutAuto
import Derived.Deep.CutBlock
import Derived.Deep.RegionHeld3
import Derived.Laws.Rows
import Derived.Lib.AppendStr
import Derived.ArgAppend
import Derived.Laws.IdiomCopy
import Derived.OrdersHeld
import Derived.Laws.BitsLemmas
import Derived.RowKit
import Derived.Test.YtpeefjfklklhdaaDoorWWords
import Derived.Test.YtpeefjfklklhdaaDoorWLast
import Derived.Test.YtpeefjfklklhdaaDoorWTab
import Derived.Test.YtpeefjfklklhdaaDoorWFour
import Derived.Test.YtpeefjfklklhdaaDoorWQPut
import Derived.Test.YtpeefjfklklhdaaDoorWApart
import Derived.Test.YtpeefjfklklhdaaDoorWArr
import Derived.Test.YtpeefjfklklhdaaDoorWZeros
import Derived.Test.YtpeefjfklklhdaaDoorWFoot
import Derived.Test.YtpeefjfklklhdaaDoorWKept
import Derived.Test.YtpeefjfklklhdaaDoorWShare
import Derived.Test.YtpeefjfklklhdaaDoorWN
import Derived.Test.YtpeefjfklklhdaaDoorWFootNe
import Derived.Test.YtpeefjfklklhdaaDoorWAt
import Derived.Test.YtpeefjfklklhdaaDoorWEqStruct
import Derived.Test.YtpeefjfklklhdaaDoorWRepsOne
import Derived.Test.YtpeefjfklklhdaaDoorWInv
import Derived.Test.YtpeefjfklklhdaaDoorWInvWords
import Derived.Test.YtpeefjfklklhdaaDoorWGuard
import Derived.Test.YtpeefjfklklhdaaDoorWNEv
import Derived.Test.YtpeefjfklklhdaaDoorWMore
namespace Go.Proofs.YtpeefjfklklhdaaDoor.Q
open Go.RowKit Go.Proofs.YtpeefjfklklhdaaDoorW.PrintWords Go.Proofs.YtpeefjfklklhdaaDoorW.PrintLast Go.Proofs.YtpeefjfklklhdaaDoorW.PrintMore
attribute [local go_sem] max2_int min2_int max_two min_two max_three min_three max_four min_four
set_option linter.unusedVariables false
set_option linter.unusedSimpArgs false
def errW : Option Int → Value
  | none => .nilIface
  | some c => .iface 0 (.int .i64 c)
theorem errW_none : errW none = .nilIface := rfl
theorem errW_some (c : Int) : errW (some c) = .iface 0 (.int .i64 c) := rfl
theorem info5 : (Tryd.prog.info? 5).map (fun i => (i.zero, i.size, i.bytes)) = some (some (.int .u8 0), 1, 1) := by kernel_rfl
theorem info9 : (Tryd.prog.info? 9).map (fun i => (i.zero, i.size, i.bytes)) = some (some (.string ⟨#[]⟩), 1, 16) := by kernel_rfl
end Go.Proofs.YtpeefjfklklhdaaDoor.Q
