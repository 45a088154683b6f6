/-
  No cell of these rows narrows 'for every input' (looked for: loops, veiled, ifaces, maps, wideKeys, modest, calm, conditions, laid).
  DERIVED. THE GIVEN ROWS OF THIS SEAT. 5 by the template 'for every input the law returns true; each argument reads behind the call as it read before'; 0 by the template 'total and deterministic' (their statements: YtnkdnfnpknfgoaaTotals.lean).
  GIVEN WITH THE SEED: the statements are not yours to turn. If you find one false, say at which input.
  Laid BY PROGRAM, IN A SANDBOX (cutbox-rows.mjs): the forced cells as the released guide's own fill.sh prints them over the translation 74f9b0b7a26d1956… (all of the seat's roots in one cut). By AI agents, Wed Nov 11 2026. No macro, syntax, notation, axiom, sorry.
-/
import Derived.Test.YtnkdnfnpknfgoaaChecked
import GoSem.Claim
import GoSem.ClaimJoined
import GoSem.ClaimMapViews
import Derived.JoinedTies
import Derived.KernelRfl
namespace Go.Proofs.Ytnkdnfnpknfgoaa
/- THE CELL 'sum', in the pinned program and in every row, IS THE sha256 OF THE DUMP (.gsa) THAT YtnkdnfnpknfgoaaProg.lean LOADS. Nothing in Lean hashes anything: it is a label: what it is worth is what the hold of that sum in a sandbox is worth. -/
noncomputable def Try.pinned : Pinned := { name := "ytnkdnfnpknfgoaa", sum := "74f9b0b7a26d19565164952c84d2ef65e37d7143772f4c222f9c2092a8aa4ca4", checked := Try.checked }
namespace Rows
def none {H : Type} : Left H := { results := [], args := [] }

/-- 'laws.FnExactConstants': WHATEVER THE INPUT: true; the input reads as it did. -/
def fnExactConstantsSpec : ChangeSpec := { name := "fnExactConstants", fn := fun _ => fun
  | [] => { results := [.lit (.bool true)], args := [] }
  | _ => none }
def fnExactConstantsRow : OpenClaim := { program := "ytnkdnfnpknfgoaa", sum := "74f9b0b7a26d19565164952c84d2ef65e37d7143772f4c222f9c2092a8aa4ca4", func := "loop.example/satchel/laws.FnExactConstants", spec := "fnExactConstants", apart := false }
def FnExactConstantsSaid : Prop := fnExactConstantsRow.holds Try.pinned (OpenSpec.ofChange fnExactConstantsSpec)

/-- ITS FALSE NEIGHBOUR: 'it returns false'. Refute it at one input. -/
def fnExactConstantsWrong : ChangeSpec := { name := "fnExactConstants", fn := fun _ => fun
  | [] => { results := [.lit (.bool false)], args := [] }
  | _ => none }
def FnExactConstantsWrongFalsely : Prop := fnExactConstantsRow.holds Try.pinned (OpenSpec.ofChange fnExactConstantsWrong)

/-- 'laws.FnExactSpoolPause': WHATEVER THE INPUT: true; the input reads as it did. -/
def fnExactSpoolPauseSpec : ChangeSpec := { name := "fnExactSpoolPause", fn := fun _ => fun
  | [d] => { results := [.lit (.bool true)], args := [d] }
  | _ => none }
def fnExactSpoolPauseRow : OpenClaim := { program := "ytnkdnfnpknfgoaa", sum := "74f9b0b7a26d19565164952c84d2ef65e37d7143772f4c222f9c2092a8aa4ca4", func := "loop.example/satchel/laws.FnExactSpoolPause", spec := "fnExactSpoolPause", apart := false }
def FnExactSpoolPauseSaid : Prop := fnExactSpoolPauseRow.holds Try.pinned (OpenSpec.ofChange fnExactSpoolPauseSpec)

/-- ITS FALSE NEIGHBOUR: 'it returns false'. Refute it at one input. -/
def fnExactSpoolPauseWrong : ChangeSpec := { name := "fnExactSpoolPause", fn := fun _ => fun
  | [d] => { results := [.lit (.bool false)], args := [d] }
  | _ => none }
def FnExactSpoolPauseWrongFalsely : Prop := fnExactSpoolPauseRow.holds Try.pinned (OpenSpec.ofChange fnExactSpoolPauseWrong)

/-- 'laws.FnExactReplyCode': WHATEVER THE INPUT: true; the input reads as it did. -/
def fnExactReplyCodeSpec : ChangeSpec := { name := "fnExactReplyCode", fn := fun _ => fun
  | [d] => { results := [.lit (.bool true)], args := [d] }
  | _ => none }
def fnExactReplyCodeRow : OpenClaim := { program := "ytnkdnfnpknfgoaa", sum := "74f9b0b7a26d19565164952c84d2ef65e37d7143772f4c222f9c2092a8aa4ca4", func := "loop.example/satchel/laws.FnExactReplyCode", spec := "fnExactReplyCode", apart := false }
def FnExactReplyCodeSaid : Prop := fnExactReplyCodeRow.holds Try.pinned (OpenSpec.ofChange fnExactReplyCodeSpec)

/-- ITS FALSE NEIGHBOUR: 'it returns false'. Refute it at one input. -/
def fnExactReplyCodeWrong : ChangeSpec := { name := "fnExactReplyCode", fn := fun _ => fun
  | [d] => { results := [.lit (.bool false)], args := [d] }
  | _ => none }
def FnExactReplyCodeWrongFalsely : Prop := fnExactReplyCodeRow.holds Try.pinned (OpenSpec.ofChange fnExactReplyCodeWrong)

/-- 'laws.FnSpoolPause': WHATEVER THE INPUT: true; the input reads as it did. -/
def fnSpoolPauseSpec : ChangeSpec := { name := "fnSpoolPause", fn := fun _ => fun
  | [d] => { results := [.lit (.bool true)], args := [d] }
  | _ => none }
def fnSpoolPauseRow : OpenClaim := { program := "ytnkdnfnpknfgoaa", sum := "74f9b0b7a26d19565164952c84d2ef65e37d7143772f4c222f9c2092a8aa4ca4", func := "loop.example/satchel/laws.FnSpoolPause", spec := "fnSpoolPause", apart := false }
def FnSpoolPauseSaid : Prop := fnSpoolPauseRow.holds Try.pinned (OpenSpec.ofChange fnSpoolPauseSpec)

/-- ITS FALSE NEIGHBOUR: 'it returns false'. Refute it at one input. -/
def fnSpoolPauseWrong : ChangeSpec := { name := "fnSpoolPause", fn := fun _ => fun
  | [d] => { results := [.lit (.bool false)], args := [d] }
  | _ => none }
def FnSpoolPauseWrongFalsely : Prop := fnSpoolPauseRow.holds Try.pinned (OpenSpec.ofChange fnSpoolPauseWrong)

/-- 'laws.FnReplyCode': WHATEVER THE INPUT: true; the input reads as it did. -/
def fnReplyCodeSpec : ChangeSpec := { name := "fnReplyCode", fn := fun _ => fun
  | [d] => { results := [.lit (.bool true)], args := [d] }
  | _ => none }
def fnReplyCodeRow : OpenClaim := { program := "ytnkdnfnpknfgoaa", sum := "74f9b0b7a26d19565164952c84d2ef65e37d7143772f4c222f9c2092a8aa4ca4", func := "loop.example/satchel/laws.FnReplyCode", spec := "fnReplyCode", apart := false }
def FnReplyCodeSaid : Prop := fnReplyCodeRow.holds Try.pinned (OpenSpec.ofChange fnReplyCodeSpec)

/-- ITS FALSE NEIGHBOUR: 'it returns false'. Refute it at one input. -/
def fnReplyCodeWrong : ChangeSpec := { name := "fnReplyCode", fn := fun _ => fun
  | [d] => { results := [.lit (.bool false)], args := [d] }
  | _ => none }
def FnReplyCodeWrongFalsely : Prop := fnReplyCodeRow.holds Try.pinned (OpenSpec.ofChange fnReplyCodeWrong)

/- THE SECOND FORM. 'bulk': how many values and letters a reading holds, each counted each time it is reached (what is shared counts as often as it is met; a slice's spare places count too). A statement '..UptoSaid' is the law's where the arguments, and the package variables that the reading takes, are together of bulk at most 1048576: NARROWER than '..Said'. Prove '..Said' where nothing that the law and all that it calls make is longer than what came in: it says more and counts as full. Else prove '..UptoSaid'. A law counts once. -/
mutual
def uptoBulk {H : Type} : DataW H → Nat
  | .lit (.string bytes) => bytes.length + 1
  | .lit _ => 1
  | .nil => 1
  | .ptr d => uptoBulk d + 1
  | .slice elems spare => uptoBulkAll elems + uptoBulkAll spare + 1
  | .agg parts => uptoBulkAll parts + 1
  | .iface _ d => uptoBulk d + 1
  | .map entries => uptoBulkEntries entries + 1
  | .held _ => 1
def uptoBulkAll {H : Type} : List (DataW H) → Nat
  | [] => 0
  | d :: r => uptoBulk d + uptoBulkAll r
def uptoBulkEntries {H : Type} : List (Lit × DataW H) → Nat
  | [] => 0
  | x :: r => uptoBulkEntry x + uptoBulkEntries r
def uptoBulkEntry {H : Type} : Lit × DataW H → Nat
  | (.string bytes, d) => bytes.length + uptoBulk d + 1
  | (_, d) => uptoBulk d + 1
 end
def uptoSmall : (H : Type) → List (DataW H) → Bool := fun _ ds => decide (uptoBulkAll ds ≤ 1048576)
def OpenSpec.upto (s : _root_.Go.ChangeSpec) : _root_.Go.OpenSpec := { _root_.Go.OpenSpec.ofChange s with cond := some uptoSmall }

/-- 'laws.FnExactConstants', WHERE WHAT IT READS IS OF BULK AT MOST 1048576: true; the input reads as it did. -/
def fnExactConstantsUptoRow : OpenClaim := { program := "ytnkdnfnpknfgoaa", sum := "74f9b0b7a26d19565164952c84d2ef65e37d7143772f4c222f9c2092a8aa4ca4", func := "loop.example/satchel/laws.FnExactConstants", spec := "fnExactConstants", apart := false, narrowed := true }
def FnExactConstantsUptoSaid : Prop := fnExactConstantsUptoRow.holds Try.pinned (OpenSpec.upto fnExactConstantsSpec)

/-- 'laws.FnExactSpoolPause', WHERE WHAT IT READS IS OF BULK AT MOST 1048576: true; the input reads as it did. -/
def fnExactSpoolPauseUptoRow : OpenClaim := { program := "ytnkdnfnpknfgoaa", sum := "74f9b0b7a26d19565164952c84d2ef65e37d7143772f4c222f9c2092a8aa4ca4", func := "loop.example/satchel/laws.FnExactSpoolPause", spec := "fnExactSpoolPause", apart := false, narrowed := true }
def FnExactSpoolPauseUptoSaid : Prop := fnExactSpoolPauseUptoRow.holds Try.pinned (OpenSpec.upto fnExactSpoolPauseSpec)

/-- 'laws.FnExactReplyCode', WHERE WHAT IT READS IS OF BULK AT MOST 1048576: true; the input reads as it did. -/
def fnExactReplyCodeUptoRow : OpenClaim := { program := "ytnkdnfnpknfgoaa", sum := "74f9b0b7a26d19565164952c84d2ef65e37d7143772f4c222f9c2092a8aa4ca4", func := "loop.example/satchel/laws.FnExactReplyCode", spec := "fnExactReplyCode", apart := false, narrowed := true }
def FnExactReplyCodeUptoSaid : Prop := fnExactReplyCodeUptoRow.holds Try.pinned (OpenSpec.upto fnExactReplyCodeSpec)

/-- 'laws.FnSpoolPause', WHERE WHAT IT READS IS OF BULK AT MOST 1048576: true; the input reads as it did. -/
def fnSpoolPauseUptoRow : OpenClaim := { program := "ytnkdnfnpknfgoaa", sum := "74f9b0b7a26d19565164952c84d2ef65e37d7143772f4c222f9c2092a8aa4ca4", func := "loop.example/satchel/laws.FnSpoolPause", spec := "fnSpoolPause", apart := false, narrowed := true }
def FnSpoolPauseUptoSaid : Prop := fnSpoolPauseUptoRow.holds Try.pinned (OpenSpec.upto fnSpoolPauseSpec)

/-- 'laws.FnReplyCode', WHERE WHAT IT READS IS OF BULK AT MOST 1048576: true; the input reads as it did. -/
def fnReplyCodeUptoRow : OpenClaim := { program := "ytnkdnfnpknfgoaa", sum := "74f9b0b7a26d19565164952c84d2ef65e37d7143772f4c222f9c2092a8aa4ca4", func := "loop.example/satchel/laws.FnReplyCode", spec := "fnReplyCode", apart := false, narrowed := true }
def FnReplyCodeUptoSaid : Prop := fnReplyCodeUptoRow.holds Try.pinned (OpenSpec.upto fnReplyCodeSpec)

end Rows
end Go.Proofs.Ytnkdnfnpknfgoaa
