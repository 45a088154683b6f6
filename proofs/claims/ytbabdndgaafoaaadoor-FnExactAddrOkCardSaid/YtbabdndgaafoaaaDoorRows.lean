/-
  NARROWER THAN 'FOR EVERY INPUT', by the rows' own cells (each row's printed sentence says how): FnExactDomainOk: laid · FnExactDomainIn: laid · FnExactAddrOk: laid.
  DERIVED. THE GIVEN ROWS OF THIS SEAT. 3 by the template 'for every input the law returns true; each argument reads behind the call as it read before'; 0 by the template 'total and deterministic' (their statements: YtbabdndgaafoaaaDoorTotals.lean).
  GIVEN WITH THE SEED: the statements are not yours to turn. If you find one false, say at which input.
  Laid BY PROGRAM, IN A SANDBOX (cutbox-rows.mjs): the forced cells as the released guide's own fill.sh prints them over the translation 3f922ea9096f3cbe… (all of the seat's roots in one cut). By AI agents, Wed Nov 11 2026. No macro, syntax, notation, axiom, sorry.
-/
import Derived.Test.YtbabdndgaafoaaaDoorChecked
import GoSem.PinnedTables
import GoSem.Claim
import GoSem.ClaimJoined
import GoSem.ClaimMapViews
import Derived.JoinedTies
import Derived.KernelRfl
namespace Go.Proofs.YtbabdndgaafoaaaDoor
/- THE CELL 'sum', in the pinned program and in every row, IS THE sha256 OF THE DUMP (.gsa) THAT YtbabdndgaafoaaaDoorProg.lean LOADS. Nothing in Lean hashes anything: it is a label: what it is worth is what the hold of that sum in a sandbox is worth. -/
noncomputable def Tryd.pinned : Pinned := { name := "ytbabdndgaafoaaadoor", sum := "3f922ea9096f3cbe04b4818150d904b38fd5458c695a8fd31654825ccc977bf7", checked := Tryd.checked }
namespace Rows
def none {H : Type} : Left H := { results := [], args := [] }

/- WHAT THE LISTED PACKAGE-LEVEL VARIABLES READ AS WHEN THE CALL BEGINS. Each datum BY PROGRAM (the guide's laid-datum.mjs) off the statement by which the dump's own 'gosem.cut.vars' lays the variable. In a bare row this is a premise. The card (YtbabdndgaafoaaaDoorCards.lean) ties it to the program's text. -/
def laid_unicode_utf8_acceptRanges {H : Type} : DataW H := .agg [.agg [.lit (.int .u8 128), .lit (.int .u8 191)], .agg [.lit (.int .u8 160), .lit (.int .u8 191)], .agg [.lit (.int .u8 128), .lit (.int .u8 159)], .agg [.lit (.int .u8 144), .lit (.int .u8 191)], .agg [.lit (.int .u8 128), .lit (.int .u8 143)], .agg [.lit (.int .u8 0), .lit (.int .u8 0)], .agg [.lit (.int .u8 0), .lit (.int .u8 0)], .agg [.lit (.int .u8 0), .lit (.int .u8 0)], .agg [.lit (.int .u8 0), .lit (.int .u8 0)], .agg [.lit (.int .u8 0), .lit (.int .u8 0)], .agg [.lit (.int .u8 0), .lit (.int .u8 0)], .agg [.lit (.int .u8 0), .lit (.int .u8 0)], .agg [.lit (.int .u8 0), .lit (.int .u8 0)], .agg [.lit (.int .u8 0), .lit (.int .u8 0)], .agg [.lit (.int .u8 0), .lit (.int .u8 0)], .agg [.lit (.int .u8 0), .lit (.int .u8 0)]]
/-- One of Go's own tables, pinned by name: the form's constant. -/
def laid_unicode_utf8_first : DataW Unit := Go.Pinned.utf8First

/-- 'laws.FnExactDomainOk': WHATEVER THE INPUT: true; the input reads as it did. -/
def fnExactDomainOkSpec : ChangeSpec := { name := "fnExactDomainOk", fn := fun _ => fun
  | [d] => { results := [.lit (.bool true)], args := [d] }
  | _ => none }
def fnExactDomainOkRow : OpenClaim := { program := "ytbabdndgaafoaaadoor", sum := "3f922ea9096f3cbe04b4818150d904b38fd5458c695a8fd31654825ccc977bf7", func := "loop.example/satchel/laws.FnExactDomainOk", spec := "fnExactDomainOk", inPlace := ["internal/bytealg.CountString", "internal/bytealg.IndexByteString", "internal/bytealg.IndexString"], named := ["unicode/utf8.first", "unicode/utf8.acceptRanges", "internal/bytealg.MaxLen"], apart := false, laid := [("unicode/utf8.acceptRanges", laid_unicode_utf8_acceptRanges), ("unicode/utf8.first", laid_unicode_utf8_first)] }
def FnExactDomainOkSaid : Prop := fnExactDomainOkRow.holds Tryd.pinned (OpenSpec.ofChange fnExactDomainOkSpec)

/-- ITS FALSE NEIGHBOUR: 'it returns false'. Refute it at one input. -/
def fnExactDomainOkWrong : ChangeSpec := { name := "fnExactDomainOk", fn := fun _ => fun
  | [d] => { results := [.lit (.bool false)], args := [d] }
  | _ => none }
def FnExactDomainOkWrongFalsely : Prop := fnExactDomainOkRow.holds Tryd.pinned (OpenSpec.ofChange fnExactDomainOkWrong)

/-- 'laws.FnExactDomainIn': WHATEVER THE INPUT: true; the input reads as it did. -/
def fnExactDomainInSpec : ChangeSpec := { name := "fnExactDomainIn", fn := fun _ => fun
  | [d1, d2] => { results := [.lit (.bool true)], args := [d1, d2] }
  | _ => none }
def fnExactDomainInRow : OpenClaim := { program := "ytbabdndgaafoaaadoor", sum := "3f922ea9096f3cbe04b4818150d904b38fd5458c695a8fd31654825ccc977bf7", func := "loop.example/satchel/laws.FnExactDomainIn", spec := "fnExactDomainIn", inPlace := ["internal/bytealg.CountString", "internal/bytealg.IndexByteString", "internal/bytealg.IndexString"], named := ["unicode/utf8.first", "unicode/utf8.acceptRanges", "internal/bytealg.MaxLen"], apart := false, laid := [("unicode/utf8.acceptRanges", laid_unicode_utf8_acceptRanges), ("unicode/utf8.first", laid_unicode_utf8_first)] }
def FnExactDomainInSaid : Prop := fnExactDomainInRow.holds Tryd.pinned (OpenSpec.ofChange fnExactDomainInSpec)

/-- ITS FALSE NEIGHBOUR: 'it returns false'. Refute it at one input. -/
def fnExactDomainInWrong : ChangeSpec := { name := "fnExactDomainIn", fn := fun _ => fun
  | [d1, d2] => { results := [.lit (.bool false)], args := [d1, d2] }
  | _ => none }
def FnExactDomainInWrongFalsely : Prop := fnExactDomainInRow.holds Tryd.pinned (OpenSpec.ofChange fnExactDomainInWrong)

/-- 'laws.FnExactAddrOk': WHATEVER THE INPUT: true; the input reads as it did. -/
def fnExactAddrOkSpec : ChangeSpec := { name := "fnExactAddrOk", fn := fun _ => fun
  | [d] => { results := [.lit (.bool true)], args := [d] }
  | _ => none }
def fnExactAddrOkRow : OpenClaim := { program := "ytbabdndgaafoaaadoor", sum := "3f922ea9096f3cbe04b4818150d904b38fd5458c695a8fd31654825ccc977bf7", func := "loop.example/satchel/laws.FnExactAddrOk", spec := "fnExactAddrOk", inPlace := ["internal/bytealg.IndexByteString", "internal/bytealg.IndexString", "internal/bytealg.CountString"], named := ["unicode/utf8.first", "unicode/utf8.acceptRanges", "internal/bytealg.MaxLen"], apart := false, laid := [("unicode/utf8.acceptRanges", laid_unicode_utf8_acceptRanges), ("unicode/utf8.first", laid_unicode_utf8_first)] }
def FnExactAddrOkSaid : Prop := fnExactAddrOkRow.holds Tryd.pinned (OpenSpec.ofChange fnExactAddrOkSpec)

/-- ITS FALSE NEIGHBOUR: 'it returns false'. Refute it at one input. -/
def fnExactAddrOkWrong : ChangeSpec := { name := "fnExactAddrOk", fn := fun _ => fun
  | [d] => { results := [.lit (.bool false)], args := [d] }
  | _ => none }
def FnExactAddrOkWrongFalsely : Prop := fnExactAddrOkRow.holds Tryd.pinned (OpenSpec.ofChange fnExactAddrOkWrong)

/- THE SECOND FORM. 'bulk': how many values and letters a reading holds, each counted each time it is reached (what is shared counts as often as it is met; a slice's spare places count too). A statement '..UptoSaid' is the law's where the arguments, and the package variables that the reading takes, are together of bulk at most 1048576: NARROWER than '..Said'. Prove '..Said' where nothing that the law and all that it calls make is longer than what came in: it says more and counts as full. Else prove '..UptoSaid'. A law counts once. -/
mutual
def uptoBulk {H : Type} : DataW H → Nat
  | .lit (.string bytes) => bytes.length + 1
  | .lit _ => 1
  | .nil => 1
  | .ptr d => uptoBulk d + 1
  | .slice elems spare => uptoBulkAll elems + uptoBulkAll spare + 1
  | .agg parts => uptoBulkAll parts + 1
  | .iface _ d => uptoBulk d + 1
  | .map entries => uptoBulkEntries entries + 1
  | .held _ => 1
def uptoBulkAll {H : Type} : List (DataW H) → Nat
  | [] => 0
  | d :: r => uptoBulk d + uptoBulkAll r
def uptoBulkEntries {H : Type} : List (Lit × DataW H) → Nat
  | [] => 0
  | x :: r => uptoBulkEntry x + uptoBulkEntries r
def uptoBulkEntry {H : Type} : Lit × DataW H → Nat
  | (.string bytes, d) => bytes.length + uptoBulk d + 1
  | (_, d) => uptoBulk d + 1
 end
def uptoSmall : (H : Type) → List (DataW H) → Bool := fun _ ds => decide (uptoBulkAll ds ≤ 1048576)
def OpenSpec.upto (s : _root_.Go.ChangeSpec) : _root_.Go.OpenSpec := { _root_.Go.OpenSpec.ofChange s with cond := some uptoSmall }

/-- 'laws.FnExactDomainOk', WHERE WHAT IT READS IS OF BULK AT MOST 1048576: true; the input reads as it did. -/
def fnExactDomainOkUptoRow : OpenClaim := { program := "ytbabdndgaafoaaadoor", sum := "3f922ea9096f3cbe04b4818150d904b38fd5458c695a8fd31654825ccc977bf7", func := "loop.example/satchel/laws.FnExactDomainOk", spec := "fnExactDomainOk", inPlace := ["internal/bytealg.CountString", "internal/bytealg.IndexByteString", "internal/bytealg.IndexString"], named := ["unicode/utf8.first", "unicode/utf8.acceptRanges", "internal/bytealg.MaxLen"], apart := false, laid := [("unicode/utf8.acceptRanges", laid_unicode_utf8_acceptRanges), ("unicode/utf8.first", laid_unicode_utf8_first)], narrowed := true }
def FnExactDomainOkUptoSaid : Prop := fnExactDomainOkUptoRow.holds Tryd.pinned (OpenSpec.upto fnExactDomainOkSpec)

/-- 'laws.FnExactDomainIn', WHERE WHAT IT READS IS OF BULK AT MOST 1048576: true; the input reads as it did. -/
def fnExactDomainInUptoRow : OpenClaim := { program := "ytbabdndgaafoaaadoor", sum := "3f922ea9096f3cbe04b4818150d904b38fd5458c695a8fd31654825ccc977bf7", func := "loop.example/satchel/laws.FnExactDomainIn", spec := "fnExactDomainIn", inPlace := ["internal/bytealg.CountString", "internal/bytealg.IndexByteString", "internal/bytealg.IndexString"], named := ["unicode/utf8.first", "unicode/utf8.acceptRanges", "internal/bytealg.MaxLen"], apart := false, laid := [("unicode/utf8.acceptRanges", laid_unicode_utf8_acceptRanges), ("unicode/utf8.first", laid_unicode_utf8_first)], narrowed := true }
def FnExactDomainInUptoSaid : Prop := fnExactDomainInUptoRow.holds Tryd.pinned (OpenSpec.upto fnExactDomainInSpec)

/-- 'laws.FnExactAddrOk', WHERE WHAT IT READS IS OF BULK AT MOST 1048576: true; the input reads as it did. -/
def fnExactAddrOkUptoRow : OpenClaim := { program := "ytbabdndgaafoaaadoor", sum := "3f922ea9096f3cbe04b4818150d904b38fd5458c695a8fd31654825ccc977bf7", func := "loop.example/satchel/laws.FnExactAddrOk", spec := "fnExactAddrOk", inPlace := ["internal/bytealg.IndexByteString", "internal/bytealg.IndexString", "internal/bytealg.CountString"], named := ["unicode/utf8.first", "unicode/utf8.acceptRanges", "internal/bytealg.MaxLen"], apart := false, laid := [("unicode/utf8.acceptRanges", laid_unicode_utf8_acceptRanges), ("unicode/utf8.first", laid_unicode_utf8_first)], narrowed := true }
def FnExactAddrOkUptoSaid : Prop := fnExactAddrOkUptoRow.holds Tryd.pinned (OpenSpec.upto fnExactAddrOkSpec)

end Rows
end Go.Proofs.YtbabdndgaafoaaaDoor
