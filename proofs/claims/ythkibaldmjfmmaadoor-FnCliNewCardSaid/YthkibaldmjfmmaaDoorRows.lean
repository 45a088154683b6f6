/-
  NARROWER THAN 'FOR EVERY INPUT', by the rows' own cells (each row's printed sentence says how): FnExactMailOk: laid · FnExactWayOf: laid · FnExactConfTakes: laid · FnExactNoteOk: laid · FnExactCliOk: laid · FnCliNew: laid · FnExactMailPut: laid.
  DERIVED. THE GIVEN ROWS OF THIS SEAT. 7 by the template 'for every input the law returns true; each argument reads behind the call as it read before'; 0 by the template 'total and deterministic' (their statements: YthkibaldmjfmmaaDoorTotals.lean).
  GIVEN WITH THE SEED: the statements are not yours to turn. If you find one false, say at which input.
  Laid BY PROGRAM, IN A SANDBOX (cutbox-rows.mjs): the forced cells as the released guide's own fill.sh prints them over the translation f8d5abfab4b66fa5… (all of the seat's roots in one cut). By AI agents, Wed Nov 11 2026. No macro, syntax, notation, axiom, sorry.
-/
import Derived.Test.YthkibaldmjfmmaaDoorChecked
import GoSem.PinnedTables
import GoSem.Claim
import GoSem.ClaimJoined
import GoSem.ClaimMapViews
import Derived.JoinedTies
import Derived.KernelRfl
namespace Go.Proofs.YthkibaldmjfmmaaDoor
/- THE CELL 'sum', in the pinned program and in every row, IS THE sha256 OF THE DUMP (.gsa) THAT YthkibaldmjfmmaaDoorProg.lean LOADS. Nothing in Lean hashes anything: it is a label: what it is worth is what the hold of that sum in a sandbox is worth. -/
noncomputable def Tryd.pinned : Pinned := { name := "ythkibaldmjfmmaadoor", sum := "f8d5abfab4b66fa5eb5457c8cd8ffc65cbd4325486ac9de7138a9a3ddf1c21c5", checked := Tryd.checked }
namespace Rows
def none {H : Type} : Left H := { results := [], args := [] }

/- WHAT THE LISTED PACKAGE-LEVEL VARIABLES READ AS WHEN THE CALL BEGINS. Each datum BY PROGRAM (the guide's laid-datum.mjs) off the statement by which the dump's own 'gosem.cut.vars' lays the variable. In a bare row this is a premise. The card (YthkibaldmjfmmaaDoorCards.lean) ties it to the program's text. -/
def laid_unicode_utf8_acceptRanges {H : Type} : DataW H := .agg [.agg [.lit (.int .u8 128), .lit (.int .u8 191)], .agg [.lit (.int .u8 160), .lit (.int .u8 191)], .agg [.lit (.int .u8 128), .lit (.int .u8 159)], .agg [.lit (.int .u8 144), .lit (.int .u8 191)], .agg [.lit (.int .u8 128), .lit (.int .u8 143)], .agg [.lit (.int .u8 0), .lit (.int .u8 0)], .agg [.lit (.int .u8 0), .lit (.int .u8 0)], .agg [.lit (.int .u8 0), .lit (.int .u8 0)], .agg [.lit (.int .u8 0), .lit (.int .u8 0)], .agg [.lit (.int .u8 0), .lit (.int .u8 0)], .agg [.lit (.int .u8 0), .lit (.int .u8 0)], .agg [.lit (.int .u8 0), .lit (.int .u8 0)], .agg [.lit (.int .u8 0), .lit (.int .u8 0)], .agg [.lit (.int .u8 0), .lit (.int .u8 0)], .agg [.lit (.int .u8 0), .lit (.int .u8 0)], .agg [.lit (.int .u8 0), .lit (.int .u8 0)]]
/-- One of Go's own tables, pinned by name: the form's constant. -/
def laid_unicode_utf8_first : DataW Unit := Go.Pinned.utf8First

/-- 'laws.FnExactMailOk': WHATEVER THE INPUT: true; the input reads as it did. -/
def fnExactMailOkSpec : ChangeSpec := { name := "fnExactMailOk", fn := fun _ => fun
  | [d] => { results := [.lit (.bool true)], args := [d] }
  | _ => none }
def fnExactMailOkRow : OpenClaim := { program := "ythkibaldmjfmmaadoor", sum := "f8d5abfab4b66fa5eb5457c8cd8ffc65cbd4325486ac9de7138a9a3ddf1c21c5", func := "loop.example/satchel/laws.FnExactMailOk", spec := "fnExactMailOk", inPlace := ["internal/bytealg.IndexByteString", "internal/bytealg.IndexString", "internal/bytealg.CountString"], unfollowed := true, recurses := true, named := ["unicode/utf8.first", "unicode/utf8.acceptRanges", "internal/bytealg.MaxLen"], plainKeys := false, apart := false, laid := [("unicode/utf8.acceptRanges", laid_unicode_utf8_acceptRanges), ("unicode/utf8.first", laid_unicode_utf8_first)] }
def FnExactMailOkSaid : Prop := fnExactMailOkRow.holds Tryd.pinned (OpenSpec.ofChange fnExactMailOkSpec)

/-- ITS FALSE NEIGHBOUR: 'it returns false'. Refute it at one input. -/
def fnExactMailOkWrong : ChangeSpec := { name := "fnExactMailOk", fn := fun _ => fun
  | [d] => { results := [.lit (.bool false)], args := [d] }
  | _ => none }
def FnExactMailOkWrongFalsely : Prop := fnExactMailOkRow.holds Tryd.pinned (OpenSpec.ofChange fnExactMailOkWrong)

/-- 'laws.FnExactWayOf': WHATEVER THE INPUT: true; the input reads as it did. -/
def fnExactWayOfSpec : ChangeSpec := { name := "fnExactWayOf", fn := fun _ => fun
  | [d1, d2] => { results := [.lit (.bool true)], args := [d1, d2] }
  | _ => none }
def fnExactWayOfRow : OpenClaim := { program := "ythkibaldmjfmmaadoor", sum := "f8d5abfab4b66fa5eb5457c8cd8ffc65cbd4325486ac9de7138a9a3ddf1c21c5", func := "loop.example/satchel/laws.FnExactWayOf", spec := "fnExactWayOf", inPlace := ["internal/bytealg.CountString", "internal/bytealg.IndexByteString", "internal/bytealg.IndexString"], unfollowed := true, recurses := true, named := ["unicode/utf8.first", "unicode/utf8.acceptRanges", "internal/bytealg.MaxLen"], plainKeys := false, apart := false, laid := [("unicode/utf8.acceptRanges", laid_unicode_utf8_acceptRanges), ("unicode/utf8.first", laid_unicode_utf8_first)] }
def FnExactWayOfSaid : Prop := fnExactWayOfRow.holds Tryd.pinned (OpenSpec.ofChange fnExactWayOfSpec)

/-- ITS FALSE NEIGHBOUR: 'it returns false'. Refute it at one input. -/
def fnExactWayOfWrong : ChangeSpec := { name := "fnExactWayOf", fn := fun _ => fun
  | [d1, d2] => { results := [.lit (.bool false)], args := [d1, d2] }
  | _ => none }
def FnExactWayOfWrongFalsely : Prop := fnExactWayOfRow.holds Tryd.pinned (OpenSpec.ofChange fnExactWayOfWrong)

/-- 'laws.FnExactConfTakes': WHATEVER THE INPUT: true; the input reads as it did. -/
def fnExactConfTakesSpec : ChangeSpec := { name := "fnExactConfTakes", fn := fun _ => fun
  | [d1, d2] => { results := [.lit (.bool true)], args := [d1, d2] }
  | _ => none }
def fnExactConfTakesRow : OpenClaim := { program := "ythkibaldmjfmmaadoor", sum := "f8d5abfab4b66fa5eb5457c8cd8ffc65cbd4325486ac9de7138a9a3ddf1c21c5", func := "loop.example/satchel/laws.FnExactConfTakes", spec := "fnExactConfTakes", inPlace := ["internal/bytealg.CountString", "internal/bytealg.IndexByteString", "internal/bytealg.IndexString"], unfollowed := true, recurses := true, named := ["unicode/utf8.first", "unicode/utf8.acceptRanges", "internal/bytealg.MaxLen"], plainKeys := false, apart := false, laid := [("unicode/utf8.acceptRanges", laid_unicode_utf8_acceptRanges), ("unicode/utf8.first", laid_unicode_utf8_first)] }
def FnExactConfTakesSaid : Prop := fnExactConfTakesRow.holds Tryd.pinned (OpenSpec.ofChange fnExactConfTakesSpec)

/-- ITS FALSE NEIGHBOUR: 'it returns false'. Refute it at one input. -/
def fnExactConfTakesWrong : ChangeSpec := { name := "fnExactConfTakes", fn := fun _ => fun
  | [d1, d2] => { results := [.lit (.bool false)], args := [d1, d2] }
  | _ => none }
def FnExactConfTakesWrongFalsely : Prop := fnExactConfTakesRow.holds Tryd.pinned (OpenSpec.ofChange fnExactConfTakesWrong)

/-- 'laws.FnExactNoteOk': WHATEVER THE INPUT: true; the input reads as it did. -/
def fnExactNoteOkSpec : ChangeSpec := { name := "fnExactNoteOk", fn := fun _ => fun
  | [d] => { results := [.lit (.bool true)], args := [d] }
  | _ => none }
def fnExactNoteOkRow : OpenClaim := { program := "ythkibaldmjfmmaadoor", sum := "f8d5abfab4b66fa5eb5457c8cd8ffc65cbd4325486ac9de7138a9a3ddf1c21c5", func := "loop.example/satchel/laws.FnExactNoteOk", spec := "fnExactNoteOk", inPlace := ["internal/bytealg.IndexByteString", "internal/bytealg.IndexString", "internal/bytealg.CountString"], unfollowed := true, recurses := true, named := ["unicode/utf8.first", "unicode/utf8.acceptRanges", "internal/bytealg.MaxLen"], plainKeys := false, apart := false, laid := [("unicode/utf8.acceptRanges", laid_unicode_utf8_acceptRanges), ("unicode/utf8.first", laid_unicode_utf8_first)] }
def FnExactNoteOkSaid : Prop := fnExactNoteOkRow.holds Tryd.pinned (OpenSpec.ofChange fnExactNoteOkSpec)

/-- ITS FALSE NEIGHBOUR: 'it returns false'. Refute it at one input. -/
def fnExactNoteOkWrong : ChangeSpec := { name := "fnExactNoteOk", fn := fun _ => fun
  | [d] => { results := [.lit (.bool false)], args := [d] }
  | _ => none }
def FnExactNoteOkWrongFalsely : Prop := fnExactNoteOkRow.holds Tryd.pinned (OpenSpec.ofChange fnExactNoteOkWrong)

/-- 'laws.FnExactCliOk': WHATEVER THE INPUT: true; the input reads as it did. -/
def fnExactCliOkSpec : ChangeSpec := { name := "fnExactCliOk", fn := fun _ => fun
  | [d] => { results := [.lit (.bool true)], args := [d] }
  | _ => none }
def fnExactCliOkRow : OpenClaim := { program := "ythkibaldmjfmmaadoor", sum := "f8d5abfab4b66fa5eb5457c8cd8ffc65cbd4325486ac9de7138a9a3ddf1c21c5", func := "loop.example/satchel/laws.FnExactCliOk", spec := "fnExactCliOk", inPlace := ["internal/bytealg.CountString", "internal/bytealg.IndexByteString", "internal/bytealg.IndexString"], unfollowed := true, recurses := true, named := ["unicode/utf8.first", "unicode/utf8.acceptRanges", "internal/bytealg.MaxLen"], plainKeys := false, apart := false, laid := [("unicode/utf8.acceptRanges", laid_unicode_utf8_acceptRanges), ("unicode/utf8.first", laid_unicode_utf8_first)] }
def FnExactCliOkSaid : Prop := fnExactCliOkRow.holds Tryd.pinned (OpenSpec.ofChange fnExactCliOkSpec)

/-- ITS FALSE NEIGHBOUR: 'it returns false'. Refute it at one input. -/
def fnExactCliOkWrong : ChangeSpec := { name := "fnExactCliOk", fn := fun _ => fun
  | [d] => { results := [.lit (.bool false)], args := [d] }
  | _ => none }
def FnExactCliOkWrongFalsely : Prop := fnExactCliOkRow.holds Tryd.pinned (OpenSpec.ofChange fnExactCliOkWrong)

/-- 'laws.FnCliNew': WHATEVER THE INPUT: true; the input reads as it did. -/
def fnCliNewSpec : ChangeSpec := { name := "fnCliNew", fn := fun _ => fun
  | [d] => { results := [.lit (.bool true)], args := [d] }
  | _ => none }
def fnCliNewRow : OpenClaim := { program := "ythkibaldmjfmmaadoor", sum := "f8d5abfab4b66fa5eb5457c8cd8ffc65cbd4325486ac9de7138a9a3ddf1c21c5", func := "loop.example/satchel/laws.FnCliNew", spec := "fnCliNew", inPlace := ["internal/bytealg.CountString", "internal/bytealg.IndexByteString", "internal/bytealg.IndexString"], unfollowed := true, recurses := true, named := ["unicode/utf8.first", "unicode/utf8.acceptRanges", "internal/bytealg.MaxLen"], plainKeys := false, apart := false, laid := [("unicode/utf8.acceptRanges", laid_unicode_utf8_acceptRanges), ("unicode/utf8.first", laid_unicode_utf8_first)] }
def FnCliNewSaid : Prop := fnCliNewRow.holds Tryd.pinned (OpenSpec.ofChange fnCliNewSpec)

/-- ITS FALSE NEIGHBOUR: 'it returns false'. Refute it at one input. -/
def fnCliNewWrong : ChangeSpec := { name := "fnCliNew", fn := fun _ => fun
  | [d] => { results := [.lit (.bool false)], args := [d] }
  | _ => none }
def FnCliNewWrongFalsely : Prop := fnCliNewRow.holds Tryd.pinned (OpenSpec.ofChange fnCliNewWrong)

/-- 'laws.FnExactMailPut': WHATEVER THE INPUT: true; the input reads as it did. -/
def fnExactMailPutSpec : ChangeSpec := { name := "fnExactMailPut", fn := fun _ => fun
  | [d] => { results := [.lit (.bool true)], args := [d] }
  | _ => none }
def fnExactMailPutRow : OpenClaim := { program := "ythkibaldmjfmmaadoor", sum := "f8d5abfab4b66fa5eb5457c8cd8ffc65cbd4325486ac9de7138a9a3ddf1c21c5", func := "loop.example/satchel/laws.FnExactMailPut", spec := "fnExactMailPut", inPlace := ["internal/bytealg.IndexByteString", "internal/bytealg.IndexString", "internal/bytealg.CountString", "internal/abi.NoEscape"], unfollowed := true, recurses := true, named := ["unicode/utf8.first", "unicode/utf8.acceptRanges", "internal/bytealg.MaxLen"], plainKeys := false, apart := false, laid := [("unicode/utf8.acceptRanges", laid_unicode_utf8_acceptRanges), ("unicode/utf8.first", laid_unicode_utf8_first)] }
def FnExactMailPutSaid : Prop := fnExactMailPutRow.holds Tryd.pinned (OpenSpec.ofChange fnExactMailPutSpec)

/-- ITS FALSE NEIGHBOUR: 'it returns false'. Refute it at one input. -/
def fnExactMailPutWrong : ChangeSpec := { name := "fnExactMailPut", fn := fun _ => fun
  | [d] => { results := [.lit (.bool false)], args := [d] }
  | _ => none }
def FnExactMailPutWrongFalsely : Prop := fnExactMailPutRow.holds Tryd.pinned (OpenSpec.ofChange fnExactMailPutWrong)

/- THE SECOND FORM. 'bulk': how many values and letters a reading holds, each counted each time it is reached (what is shared counts as often as it is met; a slice's spare places count too). A statement '..UptoSaid' is the law's where the arguments, and the package variables that the reading takes, are together of bulk at most 1048576: NARROWER than '..Said'. Prove '..Said' where nothing that the law and all that it calls make is longer than what came in: it says more and counts as full. Else prove '..UptoSaid'. A law counts once. -/
mutual
def uptoBulk {H : Type} : DataW H → Nat
  | .lit (.string bytes) => bytes.length + 1
  | .lit _ => 1
  | .nil => 1
  | .ptr d => uptoBulk d + 1
  | .slice elems spare => uptoBulkAll elems + uptoBulkAll spare + 1
  | .agg parts => uptoBulkAll parts + 1
  | .iface _ d => uptoBulk d + 1
  | .map entries => uptoBulkEntries entries + 1
  | .held _ => 1
def uptoBulkAll {H : Type} : List (DataW H) → Nat
  | [] => 0
  | d :: r => uptoBulk d + uptoBulkAll r
def uptoBulkEntries {H : Type} : List (Lit × DataW H) → Nat
  | [] => 0
  | x :: r => uptoBulkEntry x + uptoBulkEntries r
def uptoBulkEntry {H : Type} : Lit × DataW H → Nat
  | (.string bytes, d) => bytes.length + uptoBulk d + 1
  | (_, d) => uptoBulk d + 1
 end
def uptoSmall : (H : Type) → List (DataW H) → Bool := fun _ ds => decide (uptoBulkAll ds ≤ 1048576)
def OpenSpec.upto (s : _root_.Go.ChangeSpec) : _root_.Go.OpenSpec := { _root_.Go.OpenSpec.ofChange s with cond := some uptoSmall }

/-- 'laws.FnExactMailOk', WHERE WHAT IT READS IS OF BULK AT MOST 1048576: true; the input reads as it did. -/
def fnExactMailOkUptoRow : OpenClaim := { program := "ythkibaldmjfmmaadoor", sum := "f8d5abfab4b66fa5eb5457c8cd8ffc65cbd4325486ac9de7138a9a3ddf1c21c5", func := "loop.example/satchel/laws.FnExactMailOk", spec := "fnExactMailOk", inPlace := ["internal/bytealg.IndexByteString", "internal/bytealg.IndexString", "internal/bytealg.CountString"], unfollowed := true, recurses := true, named := ["unicode/utf8.first", "unicode/utf8.acceptRanges", "internal/bytealg.MaxLen"], plainKeys := false, apart := false, laid := [("unicode/utf8.acceptRanges", laid_unicode_utf8_acceptRanges), ("unicode/utf8.first", laid_unicode_utf8_first)], narrowed := true }
def FnExactMailOkUptoSaid : Prop := fnExactMailOkUptoRow.holds Tryd.pinned (OpenSpec.upto fnExactMailOkSpec)

/-- 'laws.FnExactWayOf', WHERE WHAT IT READS IS OF BULK AT MOST 1048576: true; the input reads as it did. -/
def fnExactWayOfUptoRow : OpenClaim := { program := "ythkibaldmjfmmaadoor", sum := "f8d5abfab4b66fa5eb5457c8cd8ffc65cbd4325486ac9de7138a9a3ddf1c21c5", func := "loop.example/satchel/laws.FnExactWayOf", spec := "fnExactWayOf", inPlace := ["internal/bytealg.CountString", "internal/bytealg.IndexByteString", "internal/bytealg.IndexString"], unfollowed := true, recurses := true, named := ["unicode/utf8.first", "unicode/utf8.acceptRanges", "internal/bytealg.MaxLen"], plainKeys := false, apart := false, laid := [("unicode/utf8.acceptRanges", laid_unicode_utf8_acceptRanges), ("unicode/utf8.first", laid_unicode_utf8_first)], narrowed := true }
def FnExactWayOfUptoSaid : Prop := fnExactWayOfUptoRow.holds Tryd.pinned (OpenSpec.upto fnExactWayOfSpec)

/-- 'laws.FnExactConfTakes', WHERE WHAT IT READS IS OF BULK AT MOST 1048576: true; the input reads as it did. -/
def fnExactConfTakesUptoRow : OpenClaim := { program := "ythkibaldmjfmmaadoor", sum := "f8d5abfab4b66fa5eb5457c8cd8ffc65cbd4325486ac9de7138a9a3ddf1c21c5", func := "loop.example/satchel/laws.FnExactConfTakes", spec := "fnExactConfTakes", inPlace := ["internal/bytealg.CountString", "internal/bytealg.IndexByteString", "internal/bytealg.IndexString"], unfollowed := true, recurses := true, named := ["unicode/utf8.first", "unicode/utf8.acceptRanges", "internal/bytealg.MaxLen"], plainKeys := false, apart := false, laid := [("unicode/utf8.acceptRanges", laid_unicode_utf8_acceptRanges), ("unicode/utf8.first", laid_unicode_utf8_first)], narrowed := true }
def FnExactConfTakesUptoSaid : Prop := fnExactConfTakesUptoRow.holds Tryd.pinned (OpenSpec.upto fnExactConfTakesSpec)

/-- 'laws.FnExactNoteOk', WHERE WHAT IT READS IS OF BULK AT MOST 1048576: true; the input reads as it did. -/
def fnExactNoteOkUptoRow : OpenClaim := { program := "ythkibaldmjfmmaadoor", sum := "f8d5abfab4b66fa5eb5457c8cd8ffc65cbd4325486ac9de7138a9a3ddf1c21c5", func := "loop.example/satchel/laws.FnExactNoteOk", spec := "fnExactNoteOk", inPlace := ["internal/bytealg.IndexByteString", "internal/bytealg.IndexString", "internal/bytealg.CountString"], unfollowed := true, recurses := true, named := ["unicode/utf8.first", "unicode/utf8.acceptRanges", "internal/bytealg.MaxLen"], plainKeys := false, apart := false, laid := [("unicode/utf8.acceptRanges", laid_unicode_utf8_acceptRanges), ("unicode/utf8.first", laid_unicode_utf8_first)], narrowed := true }
def FnExactNoteOkUptoSaid : Prop := fnExactNoteOkUptoRow.holds Tryd.pinned (OpenSpec.upto fnExactNoteOkSpec)

/-- 'laws.FnExactCliOk', WHERE WHAT IT READS IS OF BULK AT MOST 1048576: true; the input reads as it did. -/
def fnExactCliOkUptoRow : OpenClaim := { program := "ythkibaldmjfmmaadoor", sum := "f8d5abfab4b66fa5eb5457c8cd8ffc65cbd4325486ac9de7138a9a3ddf1c21c5", func := "loop.example/satchel/laws.FnExactCliOk", spec := "fnExactCliOk", inPlace := ["internal/bytealg.CountString", "internal/bytealg.IndexByteString", "internal/bytealg.IndexString"], unfollowed := true, recurses := true, named := ["unicode/utf8.first", "unicode/utf8.acceptRanges", "internal/bytealg.MaxLen"], plainKeys := false, apart := false, laid := [("unicode/utf8.acceptRanges", laid_unicode_utf8_acceptRanges), ("unicode/utf8.first", laid_unicode_utf8_first)], narrowed := true }
def FnExactCliOkUptoSaid : Prop := fnExactCliOkUptoRow.holds Tryd.pinned (OpenSpec.upto fnExactCliOkSpec)

/-- 'laws.FnCliNew', WHERE WHAT IT READS IS OF BULK AT MOST 1048576: true; the input reads as it did. -/
def fnCliNewUptoRow : OpenClaim := { program := "ythkibaldmjfmmaadoor", sum := "f8d5abfab4b66fa5eb5457c8cd8ffc65cbd4325486ac9de7138a9a3ddf1c21c5", func := "loop.example/satchel/laws.FnCliNew", spec := "fnCliNew", inPlace := ["internal/bytealg.CountString", "internal/bytealg.IndexByteString", "internal/bytealg.IndexString"], unfollowed := true, recurses := true, named := ["unicode/utf8.first", "unicode/utf8.acceptRanges", "internal/bytealg.MaxLen"], plainKeys := false, apart := false, laid := [("unicode/utf8.acceptRanges", laid_unicode_utf8_acceptRanges), ("unicode/utf8.first", laid_unicode_utf8_first)], narrowed := true }
def FnCliNewUptoSaid : Prop := fnCliNewUptoRow.holds Tryd.pinned (OpenSpec.upto fnCliNewSpec)

/-- 'laws.FnExactMailPut', WHERE WHAT IT READS IS OF BULK AT MOST 1048576: true; the input reads as it did. -/
def fnExactMailPutUptoRow : OpenClaim := { program := "ythkibaldmjfmmaadoor", sum := "f8d5abfab4b66fa5eb5457c8cd8ffc65cbd4325486ac9de7138a9a3ddf1c21c5", func := "loop.example/satchel/laws.FnExactMailPut", spec := "fnExactMailPut", inPlace := ["internal/bytealg.IndexByteString", "internal/bytealg.IndexString", "internal/bytealg.CountString", "internal/abi.NoEscape"], unfollowed := true, recurses := true, named := ["unicode/utf8.first", "unicode/utf8.acceptRanges", "internal/bytealg.MaxLen"], plainKeys := false, apart := false, laid := [("unicode/utf8.acceptRanges", laid_unicode_utf8_acceptRanges), ("unicode/utf8.first", laid_unicode_utf8_first)], narrowed := true }
def FnExactMailPutUptoSaid : Prop := fnExactMailPutUptoRow.holds Tryd.pinned (OpenSpec.upto fnExactMailPutSpec)

end Rows
end Go.Proofs.YthkibaldmjfmmaaDoor
