-- Told by own_print.py, a program of this session's over the kit's print; Lean checks it.
import Derived.Test.YtnkdnfnpknfgoaaProg
import Derived.Below
import Derived.Deep.Draws
import Derived.Deep.AppendLies
import Derived.Maps.AppendAt
import Derived.OwnWalk
import Derived.Laws.BytesArg
import Derived.Laws.MakeOwn
import Derived.Laws.OwnMore
import Derived.Deep.OwnRows
import Derived.Tactics
import Derived.Lib.ConvBytes
import Derived.Laws.Slices
import Derived.WalkKit
import Derived.KernelRfl
import Derived.RowKit3
import Derived.Deep.LoopGhost
import Derived.Deep.QuietTactic
import Derived.BigQuiet
import Derived.WideLaws
import Derived.Deep.DeepCutAuto
import Derived.Deep.CutBlock
import Derived.Deep.RegionHeld3
import Derived.Laws.Rows
import Derived.Lib.AppendStr
import Derived.ArgAppend
import Derived.Laws.IdiomCopy
import Derived.OrdersHeld
import Derived.Laws.BitsLemmas
import Derived.RowKit
import Derived.Test.YtnkdnfnpknfgoaaWWords
import Derived.Test.YtnkdnfnpknfgoaaWLast
import Derived.Test.YtnkdnfnpknfgoaaWTab
import Derived.Test.YtnkdnfnpknfgoaaWFour
import Derived.Test.YtnkdnfnpknfgoaaWQPut
import Derived.Test.YtnkdnfnpknfgoaaWApart
import Derived.Test.YtnkdnfnpknfgoaaWArr
import Derived.Test.YtnkdnfnpknfgoaaWZeros
import Derived.Test.YtnkdnfnpknfgoaaWFoot
import Derived.Test.YtnkdnfnpknfgoaaWKept
import Derived.Test.YtnkdnfnpknfgoaaWShare
import Derived.Test.YtnkdnfnpknfgoaaWN
import Derived.Test.YtnkdnfnpknfgoaaWFootNe
import Derived.Test.YtnkdnfnpknfgoaaWAt
import Derived.Test.YtnkdnfnpknfgoaaWEqStruct
import Derived.Test.YtnkdnfnpknfgoaaWRepsOne
import Derived.Test.YtnkdnfnpknfgoaaWInv
import Derived.Test.YtnkdnfnpknfgoaaWInvWords
import Derived.Test.YtnkdnfnpknfgoaaWGuard
import Derived.Test.YtnkdnfnpknfgoaaWNEv
import Derived.Test.YtnkdnfnpknfgoaaWMore
namespace Go.Proofs.Ytnkdnfnpknfgoaa.Q
open Go.RowKit Go.Proofs.YtnkdnfnpknfgoaaW.PrintWords Go.Proofs.YtnkdnfnpknfgoaaW.PrintLast Go.Proofs.YtnkdnfnpknfgoaaW.PrintMore
attribute [local go_sem] max2_int min2_int max_two min_two max_three min_three max_four min_four   -- for this text's walks alone
set_option linter.unusedVariables false
set_option linter.unusedSimpArgs false



def errW : Option Int → Value
  | none => .nilIface
  | some c => .iface 0 (.int .i64 c)
theorem errW_none : errW none = .nilIface := rfl
theorem errW_some (c : Int) : errW (some c) = .iface 0 (.int .i64 c) := rfl

theorem info3 : (Try.prog.info? 3).map (fun i => (i.zero, i.size, i.bytes)) = some (some (.int .i64 0), 1, 8) := by kernel_rfl
theorem info5 : (Try.prog.info? 5).map (fun i => (i.zero, i.size, i.bytes)) = some (some (.int .u8 0), 1, 1) := by kernel_rfl
theorem info9 : (Try.prog.info? 9).map (fun i => (i.zero, i.size, i.bytes)) = some (some (.string ⟨#[]⟩), 1, 16) := by kernel_rfl
-- the values' own types

theorem ob_ {k : Nat} {A : Option Addr} {n c m d : Nat} (h : some k ≠ (Value.slice A n c).ownBlock) : some k ≠ (Value.slice A m d).ownBlock := by cases A <;> exact h
theorem sz1 (a0 : UInt8) : (⟨#[a0]⟩ : ByteArray).size = 1 := rfl
theorem sz2 (a0 a1 : UInt8) : (⟨#[a0, a1]⟩ : ByteArray).size = 2 := rfl
theorem sz3 (a0 a1 a2 : UInt8) : (⟨#[a0, a1, a2]⟩ : ByteArray).size = 3 := rfl
theorem sz4 (a0 a1 a2 a3 : UInt8) : (⟨#[a0, a1, a2, a3]⟩ : ByteArray).size = 4 := rfl
theorem sz5 (a0 a1 a2 a3 a4 : UInt8) : (⟨#[a0, a1, a2, a3, a4]⟩ : ByteArray).size = 5 := rfl
theorem sz6 (a0 a1 a2 a3 a4 a5 : UInt8) : (⟨#[a0, a1, a2, a3, a4, a5]⟩ : ByteArray).size = 6 := rfl
theorem sz7 (a0 a1 a2 a3 a4 a5 a6 : UInt8) : (⟨#[a0, a1, a2, a3, a4, a5, a6]⟩ : ByteArray).size = 7 := rfl
theorem sz8 (a0 a1 a2 a3 a4 a5 a6 a7 : UInt8) : (⟨#[a0, a1, a2, a3, a4, a5, a6, a7]⟩ : ByteArray).size = 8 := rfl
end Go.Proofs.Ytnkdnfnpknfgoaa.Q
