/-
  NARROWER THAN 'FOR EVERY INPUT', by the rows' own cells (each row's printed sentence says how): FnDomain: laid · FnExactAddrPut: laid · FnExactAddrGet: laid · FnExactHopsOf: laid · FnAddrPut: laid · FnExactHopPut: laid · FnExactConfOk: laid · FnAddrGet: laid · FnExactSessHello: laid · FnTakes: laid · FnWay: laid · FnHops: laid.
  DERIVED. THE GIVEN ROWS OF THIS SEAT. 12 by the template 'for every input the law returns true; each argument reads behind the call as it read before'; 0 by the template 'total and deterministic' (their statements: YtpeefjfklklhdaaDoorTotals.lean).
  GIVEN WITH THE SEED: the statements are not yours to turn. If you find one false, say at which input.
  Laid BY PROGRAM, IN A SANDBOX (cutbox-rows.mjs): the forced cells as the released guide's own fill.sh prints them over the translation f37e85be05383e63… (all of the seat's roots in one cut). By AI agents, Wed Nov 11 2026. No macro, syntax, notation, axiom, sorry.
-/
import Derived.Test.YtpeefjfklklhdaaDoorChecked
import GoSem.PinnedTables
import GoSem.Claim
import GoSem.ClaimJoined
import GoSem.ClaimMapViews
import Derived.JoinedTies
import Derived.KernelRfl
namespace Go.Proofs.YtpeefjfklklhdaaDoor
/- THE CELL 'sum', in the pinned program and in every row, IS THE sha256 OF THE DUMP (.gsa) THAT YtpeefjfklklhdaaDoorProg.lean LOADS. Nothing in Lean hashes anything: it is a label: what it is worth is what the hold of that sum in a sandbox is worth. -/
noncomputable def Tryd.pinned : Pinned := { name := "ytpeefjfklklhdaadoor", sum := "f37e85be05383e63754156fb17b4eb2ce56bf99ce3169389ae92046427e86f82", checked := Tryd.checked }
namespace Rows
def none {H : Type} : Left H := { results := [], args := [] }

/- WHAT THE LISTED PACKAGE-LEVEL VARIABLES READ AS WHEN THE CALL BEGINS. Each datum BY PROGRAM (the guide's laid-datum.mjs) off the statement by which the dump's own 'gosem.cut.vars' lays the variable. In a bare row this is a premise. The card (YtpeefjfklklhdaaDoorCards.lean) ties it to the program's text. -/
def laid_unicode_utf8_acceptRanges {H : Type} : DataW H := .agg [.agg [.lit (.int .u8 128), .lit (.int .u8 191)], .agg [.lit (.int .u8 160), .lit (.int .u8 191)], .agg [.lit (.int .u8 128), .lit (.int .u8 159)], .agg [.lit (.int .u8 144), .lit (.int .u8 191)], .agg [.lit (.int .u8 128), .lit (.int .u8 143)], .agg [.lit (.int .u8 0), .lit (.int .u8 0)], .agg [.lit (.int .u8 0), .lit (.int .u8 0)], .agg [.lit (.int .u8 0), .lit (.int .u8 0)], .agg [.lit (.int .u8 0), .lit (.int .u8 0)], .agg [.lit (.int .u8 0), .lit (.int .u8 0)], .agg [.lit (.int .u8 0), .lit (.int .u8 0)], .agg [.lit (.int .u8 0), .lit (.int .u8 0)], .agg [.lit (.int .u8 0), .lit (.int .u8 0)], .agg [.lit (.int .u8 0), .lit (.int .u8 0)], .agg [.lit (.int .u8 0), .lit (.int .u8 0)], .agg [.lit (.int .u8 0), .lit (.int .u8 0)]]
/-- One of Go's own tables, pinned by name: the form's constant. -/
def laid_unicode_utf8_first : DataW Unit := Go.Pinned.utf8First

/-- 'laws.FnDomain': WHATEVER THE INPUT: true; the input reads as it did. -/
def fnDomainSpec : ChangeSpec := { name := "fnDomain", fn := fun _ => fun
  | [d] => { results := [.lit (.bool true)], args := [d] }
  | _ => none }
def fnDomainRow : OpenClaim := { program := "ytpeefjfklklhdaadoor", sum := "f37e85be05383e63754156fb17b4eb2ce56bf99ce3169389ae92046427e86f82", func := "loop.example/satchel/laws.FnDomain", spec := "fnDomain", inPlace := ["internal/bytealg.CountString", "internal/bytealg.IndexByteString", "internal/bytealg.IndexString"], named := ["unicode/utf8.first", "unicode/utf8.acceptRanges", "internal/bytealg.MaxLen"], apart := false, laid := [("unicode/utf8.acceptRanges", laid_unicode_utf8_acceptRanges), ("unicode/utf8.first", laid_unicode_utf8_first)] }
def FnDomainSaid : Prop := fnDomainRow.holds Tryd.pinned (OpenSpec.ofChange fnDomainSpec)

/-- ITS FALSE NEIGHBOUR: 'it returns false'. Refute it at one input. -/
def fnDomainWrong : ChangeSpec := { name := "fnDomain", fn := fun _ => fun
  | [d] => { results := [.lit (.bool false)], args := [d] }
  | _ => none }
def FnDomainWrongFalsely : Prop := fnDomainRow.holds Tryd.pinned (OpenSpec.ofChange fnDomainWrong)

/-- 'laws.FnExactAddrPut': WHATEVER THE INPUT: true; the input reads as it did. -/
def fnExactAddrPutSpec : ChangeSpec := { name := "fnExactAddrPut", fn := fun _ => fun
  | [d] => { results := [.lit (.bool true)], args := [d] }
  | _ => none }
def fnExactAddrPutRow : OpenClaim := { program := "ytpeefjfklklhdaadoor", sum := "f37e85be05383e63754156fb17b4eb2ce56bf99ce3169389ae92046427e86f82", func := "loop.example/satchel/laws.FnExactAddrPut", spec := "fnExactAddrPut", inPlace := ["internal/bytealg.IndexByteString", "internal/bytealg.IndexString", "internal/bytealg.CountString"], named := ["unicode/utf8.first", "unicode/utf8.acceptRanges", "internal/bytealg.MaxLen"], apart := false, laid := [("unicode/utf8.acceptRanges", laid_unicode_utf8_acceptRanges), ("unicode/utf8.first", laid_unicode_utf8_first)] }
def FnExactAddrPutSaid : Prop := fnExactAddrPutRow.holds Tryd.pinned (OpenSpec.ofChange fnExactAddrPutSpec)

/-- ITS FALSE NEIGHBOUR: 'it returns false'. Refute it at one input. -/
def fnExactAddrPutWrong : ChangeSpec := { name := "fnExactAddrPut", fn := fun _ => fun
  | [d] => { results := [.lit (.bool false)], args := [d] }
  | _ => none }
def FnExactAddrPutWrongFalsely : Prop := fnExactAddrPutRow.holds Tryd.pinned (OpenSpec.ofChange fnExactAddrPutWrong)

/-- 'laws.FnExactAddrGet': WHATEVER THE INPUT: true; the input reads as it did. -/
def fnExactAddrGetSpec : ChangeSpec := { name := "fnExactAddrGet", fn := fun _ => fun
  | [d] => { results := [.lit (.bool true)], args := [d] }
  | _ => none }
def fnExactAddrGetRow : OpenClaim := { program := "ytpeefjfklklhdaadoor", sum := "f37e85be05383e63754156fb17b4eb2ce56bf99ce3169389ae92046427e86f82", func := "loop.example/satchel/laws.FnExactAddrGet", spec := "fnExactAddrGet", inPlace := ["internal/bytealg.IndexByteString", "internal/bytealg.IndexString", "internal/bytealg.CountString"], named := ["internal/bytealg.MaxLen", "unicode/utf8.first", "unicode/utf8.acceptRanges"], apart := false, laid := [("unicode/utf8.acceptRanges", laid_unicode_utf8_acceptRanges), ("unicode/utf8.first", laid_unicode_utf8_first)] }
def FnExactAddrGetSaid : Prop := fnExactAddrGetRow.holds Tryd.pinned (OpenSpec.ofChange fnExactAddrGetSpec)

/-- ITS FALSE NEIGHBOUR: 'it returns false'. Refute it at one input. -/
def fnExactAddrGetWrong : ChangeSpec := { name := "fnExactAddrGet", fn := fun _ => fun
  | [d] => { results := [.lit (.bool false)], args := [d] }
  | _ => none }
def FnExactAddrGetWrongFalsely : Prop := fnExactAddrGetRow.holds Tryd.pinned (OpenSpec.ofChange fnExactAddrGetWrong)

/-- 'laws.FnExactHopsOf': WHATEVER THE INPUT: true; the input reads as it did. -/
def fnExactHopsOfSpec : ChangeSpec := { name := "fnExactHopsOf", fn := fun _ => fun
  | [d] => { results := [.lit (.bool true)], args := [d] }
  | _ => none }
def fnExactHopsOfRow : OpenClaim := { program := "ytpeefjfklklhdaadoor", sum := "f37e85be05383e63754156fb17b4eb2ce56bf99ce3169389ae92046427e86f82", func := "loop.example/satchel/laws.FnExactHopsOf", spec := "fnExactHopsOf", inPlace := ["internal/bytealg.CountString", "internal/bytealg.IndexByteString", "internal/bytealg.IndexString"], unfollowed := true, recurses := true, named := ["unicode/utf8.first", "unicode/utf8.acceptRanges", "internal/bytealg.MaxLen"], apart := false, laid := [("unicode/utf8.acceptRanges", laid_unicode_utf8_acceptRanges), ("unicode/utf8.first", laid_unicode_utf8_first)] }
def FnExactHopsOfSaid : Prop := fnExactHopsOfRow.holds Tryd.pinned (OpenSpec.ofChange fnExactHopsOfSpec)

/-- ITS FALSE NEIGHBOUR: 'it returns false'. Refute it at one input. -/
def fnExactHopsOfWrong : ChangeSpec := { name := "fnExactHopsOf", fn := fun _ => fun
  | [d] => { results := [.lit (.bool false)], args := [d] }
  | _ => none }
def FnExactHopsOfWrongFalsely : Prop := fnExactHopsOfRow.holds Tryd.pinned (OpenSpec.ofChange fnExactHopsOfWrong)

/-- 'laws.FnAddrPut': WHATEVER THE INPUT: true; the input reads as it did. -/
def fnAddrPutSpec : ChangeSpec := { name := "fnAddrPut", fn := fun _ => fun
  | [d] => { results := [.lit (.bool true)], args := [d] }
  | _ => none }
def fnAddrPutRow : OpenClaim := { program := "ytpeefjfklklhdaadoor", sum := "f37e85be05383e63754156fb17b4eb2ce56bf99ce3169389ae92046427e86f82", func := "loop.example/satchel/laws.FnAddrPut", spec := "fnAddrPut", inPlace := ["internal/bytealg.IndexByteString", "internal/bytealg.IndexString", "internal/bytealg.CountString"], named := ["unicode/utf8.first", "unicode/utf8.acceptRanges", "internal/bytealg.MaxLen"], apart := false, laid := [("unicode/utf8.acceptRanges", laid_unicode_utf8_acceptRanges), ("unicode/utf8.first", laid_unicode_utf8_first)] }
def FnAddrPutSaid : Prop := fnAddrPutRow.holds Tryd.pinned (OpenSpec.ofChange fnAddrPutSpec)

/-- ITS FALSE NEIGHBOUR: 'it returns false'. Refute it at one input. -/
def fnAddrPutWrong : ChangeSpec := { name := "fnAddrPut", fn := fun _ => fun
  | [d] => { results := [.lit (.bool false)], args := [d] }
  | _ => none }
def FnAddrPutWrongFalsely : Prop := fnAddrPutRow.holds Tryd.pinned (OpenSpec.ofChange fnAddrPutWrong)

/-- 'laws.FnExactHopPut': WHATEVER THE INPUT: true; the input reads as it did. -/
def fnExactHopPutSpec : ChangeSpec := { name := "fnExactHopPut", fn := fun _ => fun
  | [d1, d2] => { results := [.lit (.bool true)], args := [d1, d2] }
  | _ => none }
def fnExactHopPutRow : OpenClaim := { program := "ytpeefjfklklhdaadoor", sum := "f37e85be05383e63754156fb17b4eb2ce56bf99ce3169389ae92046427e86f82", func := "loop.example/satchel/laws.FnExactHopPut", spec := "fnExactHopPut", inPlace := ["internal/bytealg.CountString", "internal/bytealg.IndexByteString", "internal/bytealg.IndexString"], unfollowed := true, recurses := true, named := ["unicode/utf8.first", "unicode/utf8.acceptRanges", "internal/bytealg.MaxLen"], apart := false, laid := [("unicode/utf8.acceptRanges", laid_unicode_utf8_acceptRanges), ("unicode/utf8.first", laid_unicode_utf8_first)] }
def FnExactHopPutSaid : Prop := fnExactHopPutRow.holds Tryd.pinned (OpenSpec.ofChange fnExactHopPutSpec)

/-- ITS FALSE NEIGHBOUR: 'it returns false'. Refute it at one input. -/
def fnExactHopPutWrong : ChangeSpec := { name := "fnExactHopPut", fn := fun _ => fun
  | [d1, d2] => { results := [.lit (.bool false)], args := [d1, d2] }
  | _ => none }
def FnExactHopPutWrongFalsely : Prop := fnExactHopPutRow.holds Tryd.pinned (OpenSpec.ofChange fnExactHopPutWrong)

/-- 'laws.FnExactConfOk': WHATEVER THE INPUT: true; the input reads as it did. -/
def fnExactConfOkSpec : ChangeSpec := { name := "fnExactConfOk", fn := fun _ => fun
  | [d] => { results := [.lit (.bool true)], args := [d] }
  | _ => none }
def fnExactConfOkRow : OpenClaim := { program := "ytpeefjfklklhdaadoor", sum := "f37e85be05383e63754156fb17b4eb2ce56bf99ce3169389ae92046427e86f82", func := "loop.example/satchel/laws.FnExactConfOk", spec := "fnExactConfOk", inPlace := ["internal/bytealg.CountString", "internal/bytealg.IndexByteString", "internal/bytealg.IndexString"], unfollowed := true, recurses := true, named := ["unicode/utf8.first", "unicode/utf8.acceptRanges", "internal/bytealg.MaxLen"], apart := false, laid := [("unicode/utf8.acceptRanges", laid_unicode_utf8_acceptRanges), ("unicode/utf8.first", laid_unicode_utf8_first)] }
def FnExactConfOkSaid : Prop := fnExactConfOkRow.holds Tryd.pinned (OpenSpec.ofChange fnExactConfOkSpec)

/-- ITS FALSE NEIGHBOUR: 'it returns false'. Refute it at one input. -/
def fnExactConfOkWrong : ChangeSpec := { name := "fnExactConfOk", fn := fun _ => fun
  | [d] => { results := [.lit (.bool false)], args := [d] }
  | _ => none }
def FnExactConfOkWrongFalsely : Prop := fnExactConfOkRow.holds Tryd.pinned (OpenSpec.ofChange fnExactConfOkWrong)

/-- 'laws.FnAddrGet': WHATEVER THE INPUT: true; the input reads as it did. -/
def fnAddrGetSpec : ChangeSpec := { name := "fnAddrGet", fn := fun _ => fun
  | [d] => { results := [.lit (.bool true)], args := [d] }
  | _ => none }
def fnAddrGetRow : OpenClaim := { program := "ytpeefjfklklhdaadoor", sum := "f37e85be05383e63754156fb17b4eb2ce56bf99ce3169389ae92046427e86f82", func := "loop.example/satchel/laws.FnAddrGet", spec := "fnAddrGet", inPlace := ["internal/bytealg.IndexByteString", "internal/bytealg.IndexString", "internal/bytealg.CountString"], named := ["internal/bytealg.MaxLen", "unicode/utf8.first", "unicode/utf8.acceptRanges"], apart := false, laid := [("unicode/utf8.acceptRanges", laid_unicode_utf8_acceptRanges), ("unicode/utf8.first", laid_unicode_utf8_first)] }
def FnAddrGetSaid : Prop := fnAddrGetRow.holds Tryd.pinned (OpenSpec.ofChange fnAddrGetSpec)

/-- ITS FALSE NEIGHBOUR: 'it returns false'. Refute it at one input. -/
def fnAddrGetWrong : ChangeSpec := { name := "fnAddrGet", fn := fun _ => fun
  | [d] => { results := [.lit (.bool false)], args := [d] }
  | _ => none }
def FnAddrGetWrongFalsely : Prop := fnAddrGetRow.holds Tryd.pinned (OpenSpec.ofChange fnAddrGetWrong)

/-- 'laws.FnExactSessHello': WHATEVER THE INPUT: true; the input reads as it did. -/
def fnExactSessHelloSpec : ChangeSpec := { name := "fnExactSessHello", fn := fun _ => fun
  | [d] => { results := [.lit (.bool true)], args := [d] }
  | _ => none }
def fnExactSessHelloRow : OpenClaim := { program := "ytpeefjfklklhdaadoor", sum := "f37e85be05383e63754156fb17b4eb2ce56bf99ce3169389ae92046427e86f82", func := "loop.example/satchel/laws.FnExactSessHello", spec := "fnExactSessHello", inPlace := ["internal/bytealg.CountString", "internal/bytealg.IndexByteString", "internal/bytealg.IndexString"], unfollowed := true, recurses := true, named := ["unicode/utf8.first", "unicode/utf8.acceptRanges", "internal/bytealg.MaxLen"], apart := false, laid := [("unicode/utf8.acceptRanges", laid_unicode_utf8_acceptRanges), ("unicode/utf8.first", laid_unicode_utf8_first)] }
def FnExactSessHelloSaid : Prop := fnExactSessHelloRow.holds Tryd.pinned (OpenSpec.ofChange fnExactSessHelloSpec)

/-- ITS FALSE NEIGHBOUR: 'it returns false'. Refute it at one input. -/
def fnExactSessHelloWrong : ChangeSpec := { name := "fnExactSessHello", fn := fun _ => fun
  | [d] => { results := [.lit (.bool false)], args := [d] }
  | _ => none }
def FnExactSessHelloWrongFalsely : Prop := fnExactSessHelloRow.holds Tryd.pinned (OpenSpec.ofChange fnExactSessHelloWrong)

/-- 'laws.FnTakes': WHATEVER THE INPUT: true; the input reads as it did. -/
def fnTakesSpec : ChangeSpec := { name := "fnTakes", fn := fun _ => fun
  | [d] => { results := [.lit (.bool true)], args := [d] }
  | _ => none }
def fnTakesRow : OpenClaim := { program := "ytpeefjfklklhdaadoor", sum := "f37e85be05383e63754156fb17b4eb2ce56bf99ce3169389ae92046427e86f82", func := "loop.example/satchel/laws.FnTakes", spec := "fnTakes", inPlace := ["internal/bytealg.CountString", "internal/bytealg.IndexByteString", "internal/bytealg.IndexString"], unfollowed := true, recurses := true, named := ["unicode/utf8.first", "unicode/utf8.acceptRanges", "internal/bytealg.MaxLen"], apart := false, laid := [("unicode/utf8.acceptRanges", laid_unicode_utf8_acceptRanges), ("unicode/utf8.first", laid_unicode_utf8_first)] }
def FnTakesSaid : Prop := fnTakesRow.holds Tryd.pinned (OpenSpec.ofChange fnTakesSpec)

/-- ITS FALSE NEIGHBOUR: 'it returns false'. Refute it at one input. -/
def fnTakesWrong : ChangeSpec := { name := "fnTakes", fn := fun _ => fun
  | [d] => { results := [.lit (.bool false)], args := [d] }
  | _ => none }
def FnTakesWrongFalsely : Prop := fnTakesRow.holds Tryd.pinned (OpenSpec.ofChange fnTakesWrong)

/-- 'laws.FnWay': WHATEVER THE INPUT: true; the input reads as it did. -/
def fnWaySpec : ChangeSpec := { name := "fnWay", fn := fun _ => fun
  | [d] => { results := [.lit (.bool true)], args := [d] }
  | _ => none }
def fnWayRow : OpenClaim := { program := "ytpeefjfklklhdaadoor", sum := "f37e85be05383e63754156fb17b4eb2ce56bf99ce3169389ae92046427e86f82", func := "loop.example/satchel/laws.FnWay", spec := "fnWay", inPlace := ["internal/bytealg.CountString", "internal/bytealg.IndexByteString", "internal/bytealg.IndexString"], unfollowed := true, recurses := true, named := ["unicode/utf8.first", "unicode/utf8.acceptRanges", "internal/bytealg.MaxLen"], apart := false, laid := [("unicode/utf8.acceptRanges", laid_unicode_utf8_acceptRanges), ("unicode/utf8.first", laid_unicode_utf8_first)] }
def FnWaySaid : Prop := fnWayRow.holds Tryd.pinned (OpenSpec.ofChange fnWaySpec)

/-- ITS FALSE NEIGHBOUR: 'it returns false'. Refute it at one input. -/
def fnWayWrong : ChangeSpec := { name := "fnWay", fn := fun _ => fun
  | [d] => { results := [.lit (.bool false)], args := [d] }
  | _ => none }
def FnWayWrongFalsely : Prop := fnWayRow.holds Tryd.pinned (OpenSpec.ofChange fnWayWrong)

/-- 'laws.FnHops': WHATEVER THE INPUT: true; the input reads as it did. -/
def fnHopsSpec : ChangeSpec := { name := "fnHops", fn := fun _ => fun
  | [d1, d2] => { results := [.lit (.bool true)], args := [d1, d2] }
  | _ => none }
def fnHopsRow : OpenClaim := { program := "ytpeefjfklklhdaadoor", sum := "f37e85be05383e63754156fb17b4eb2ce56bf99ce3169389ae92046427e86f82", func := "loop.example/satchel/laws.FnHops", spec := "fnHops", inPlace := ["internal/bytealg.CountString", "internal/bytealg.IndexByteString", "internal/bytealg.IndexString"], unfollowed := true, recurses := true, named := ["unicode/utf8.first", "unicode/utf8.acceptRanges", "internal/bytealg.MaxLen"], apart := false, laid := [("unicode/utf8.acceptRanges", laid_unicode_utf8_acceptRanges), ("unicode/utf8.first", laid_unicode_utf8_first)] }
def FnHopsSaid : Prop := fnHopsRow.holds Tryd.pinned (OpenSpec.ofChange fnHopsSpec)

/-- ITS FALSE NEIGHBOUR: 'it returns false'. Refute it at one input. -/
def fnHopsWrong : ChangeSpec := { name := "fnHops", fn := fun _ => fun
  | [d1, d2] => { results := [.lit (.bool false)], args := [d1, d2] }
  | _ => none }
def FnHopsWrongFalsely : Prop := fnHopsRow.holds Tryd.pinned (OpenSpec.ofChange fnHopsWrong)

/- THE SECOND FORM. 'bulk': how many values and letters a reading holds, each counted each time it is reached (what is shared counts as often as it is met; a slice's spare places count too). A statement '..UptoSaid' is the law's where the arguments, and the package variables that the reading takes, are together of bulk at most 1048576: NARROWER than '..Said'. Prove '..Said' where nothing that the law and all that it calls make is longer than what came in: it says more and counts as full. Else prove '..UptoSaid'. A law counts once. -/
mutual
def uptoBulk {H : Type} : DataW H → Nat
  | .lit (.string bytes) => bytes.length + 1
  | .lit _ => 1
  | .nil => 1
  | .ptr d => uptoBulk d + 1
  | .slice elems spare => uptoBulkAll elems + uptoBulkAll spare + 1
  | .agg parts => uptoBulkAll parts + 1
  | .iface _ d => uptoBulk d + 1
  | .map entries => uptoBulkEntries entries + 1
  | .held _ => 1
def uptoBulkAll {H : Type} : List (DataW H) → Nat
  | [] => 0
  | d :: r => uptoBulk d + uptoBulkAll r
def uptoBulkEntries {H : Type} : List (Lit × DataW H) → Nat
  | [] => 0
  | x :: r => uptoBulkEntry x + uptoBulkEntries r
def uptoBulkEntry {H : Type} : Lit × DataW H → Nat
  | (.string bytes, d) => bytes.length + uptoBulk d + 1
  | (_, d) => uptoBulk d + 1
 end
def uptoSmall : (H : Type) → List (DataW H) → Bool := fun _ ds => decide (uptoBulkAll ds ≤ 1048576)
def OpenSpec.upto (s : _root_.Go.ChangeSpec) : _root_.Go.OpenSpec := { _root_.Go.OpenSpec.ofChange s with cond := some uptoSmall }

/-- 'laws.FnDomain', WHERE WHAT IT READS IS OF BULK AT MOST 1048576: true; the input reads as it did. -/
def fnDomainUptoRow : OpenClaim := { program := "ytpeefjfklklhdaadoor", sum := "f37e85be05383e63754156fb17b4eb2ce56bf99ce3169389ae92046427e86f82", func := "loop.example/satchel/laws.FnDomain", spec := "fnDomain", inPlace := ["internal/bytealg.CountString", "internal/bytealg.IndexByteString", "internal/bytealg.IndexString"], named := ["unicode/utf8.first", "unicode/utf8.acceptRanges", "internal/bytealg.MaxLen"], apart := false, laid := [("unicode/utf8.acceptRanges", laid_unicode_utf8_acceptRanges), ("unicode/utf8.first", laid_unicode_utf8_first)], narrowed := true }
def FnDomainUptoSaid : Prop := fnDomainUptoRow.holds Tryd.pinned (OpenSpec.upto fnDomainSpec)

/-- 'laws.FnExactAddrPut', WHERE WHAT IT READS IS OF BULK AT MOST 1048576: true; the input reads as it did. -/
def fnExactAddrPutUptoRow : OpenClaim := { program := "ytpeefjfklklhdaadoor", sum := "f37e85be05383e63754156fb17b4eb2ce56bf99ce3169389ae92046427e86f82", func := "loop.example/satchel/laws.FnExactAddrPut", spec := "fnExactAddrPut", inPlace := ["internal/bytealg.IndexByteString", "internal/bytealg.IndexString", "internal/bytealg.CountString"], named := ["unicode/utf8.first", "unicode/utf8.acceptRanges", "internal/bytealg.MaxLen"], apart := false, laid := [("unicode/utf8.acceptRanges", laid_unicode_utf8_acceptRanges), ("unicode/utf8.first", laid_unicode_utf8_first)], narrowed := true }
def FnExactAddrPutUptoSaid : Prop := fnExactAddrPutUptoRow.holds Tryd.pinned (OpenSpec.upto fnExactAddrPutSpec)

/-- 'laws.FnExactAddrGet', WHERE WHAT IT READS IS OF BULK AT MOST 1048576: true; the input reads as it did. -/
def fnExactAddrGetUptoRow : OpenClaim := { program := "ytpeefjfklklhdaadoor", sum := "f37e85be05383e63754156fb17b4eb2ce56bf99ce3169389ae92046427e86f82", func := "loop.example/satchel/laws.FnExactAddrGet", spec := "fnExactAddrGet", inPlace := ["internal/bytealg.IndexByteString", "internal/bytealg.IndexString", "internal/bytealg.CountString"], named := ["internal/bytealg.MaxLen", "unicode/utf8.first", "unicode/utf8.acceptRanges"], apart := false, laid := [("unicode/utf8.acceptRanges", laid_unicode_utf8_acceptRanges), ("unicode/utf8.first", laid_unicode_utf8_first)], narrowed := true }
def FnExactAddrGetUptoSaid : Prop := fnExactAddrGetUptoRow.holds Tryd.pinned (OpenSpec.upto fnExactAddrGetSpec)

/-- 'laws.FnExactHopsOf', WHERE WHAT IT READS IS OF BULK AT MOST 1048576: true; the input reads as it did. -/
def fnExactHopsOfUptoRow : OpenClaim := { program := "ytpeefjfklklhdaadoor", sum := "f37e85be05383e63754156fb17b4eb2ce56bf99ce3169389ae92046427e86f82", func := "loop.example/satchel/laws.FnExactHopsOf", spec := "fnExactHopsOf", inPlace := ["internal/bytealg.CountString", "internal/bytealg.IndexByteString", "internal/bytealg.IndexString"], unfollowed := true, recurses := true, named := ["unicode/utf8.first", "unicode/utf8.acceptRanges", "internal/bytealg.MaxLen"], apart := false, laid := [("unicode/utf8.acceptRanges", laid_unicode_utf8_acceptRanges), ("unicode/utf8.first", laid_unicode_utf8_first)], narrowed := true }
def FnExactHopsOfUptoSaid : Prop := fnExactHopsOfUptoRow.holds Tryd.pinned (OpenSpec.upto fnExactHopsOfSpec)

/-- 'laws.FnAddrPut', WHERE WHAT IT READS IS OF BULK AT MOST 1048576: true; the input reads as it did. -/
def fnAddrPutUptoRow : OpenClaim := { program := "ytpeefjfklklhdaadoor", sum := "f37e85be05383e63754156fb17b4eb2ce56bf99ce3169389ae92046427e86f82", func := "loop.example/satchel/laws.FnAddrPut", spec := "fnAddrPut", inPlace := ["internal/bytealg.IndexByteString", "internal/bytealg.IndexString", "internal/bytealg.CountString"], named := ["unicode/utf8.first", "unicode/utf8.acceptRanges", "internal/bytealg.MaxLen"], apart := false, laid := [("unicode/utf8.acceptRanges", laid_unicode_utf8_acceptRanges), ("unicode/utf8.first", laid_unicode_utf8_first)], narrowed := true }
def FnAddrPutUptoSaid : Prop := fnAddrPutUptoRow.holds Tryd.pinned (OpenSpec.upto fnAddrPutSpec)

/-- 'laws.FnExactHopPut', WHERE WHAT IT READS IS OF BULK AT MOST 1048576: true; the input reads as it did. -/
def fnExactHopPutUptoRow : OpenClaim := { program := "ytpeefjfklklhdaadoor", sum := "f37e85be05383e63754156fb17b4eb2ce56bf99ce3169389ae92046427e86f82", func := "loop.example/satchel/laws.FnExactHopPut", spec := "fnExactHopPut", inPlace := ["internal/bytealg.CountString", "internal/bytealg.IndexByteString", "internal/bytealg.IndexString"], unfollowed := true, recurses := true, named := ["unicode/utf8.first", "unicode/utf8.acceptRanges", "internal/bytealg.MaxLen"], apart := false, laid := [("unicode/utf8.acceptRanges", laid_unicode_utf8_acceptRanges), ("unicode/utf8.first", laid_unicode_utf8_first)], narrowed := true }
def FnExactHopPutUptoSaid : Prop := fnExactHopPutUptoRow.holds Tryd.pinned (OpenSpec.upto fnExactHopPutSpec)

/-- 'laws.FnExactConfOk', WHERE WHAT IT READS IS OF BULK AT MOST 1048576: true; the input reads as it did. -/
def fnExactConfOkUptoRow : OpenClaim := { program := "ytpeefjfklklhdaadoor", sum := "f37e85be05383e63754156fb17b4eb2ce56bf99ce3169389ae92046427e86f82", func := "loop.example/satchel/laws.FnExactConfOk", spec := "fnExactConfOk", inPlace := ["internal/bytealg.CountString", "internal/bytealg.IndexByteString", "internal/bytealg.IndexString"], unfollowed := true, recurses := true, named := ["unicode/utf8.first", "unicode/utf8.acceptRanges", "internal/bytealg.MaxLen"], apart := false, laid := [("unicode/utf8.acceptRanges", laid_unicode_utf8_acceptRanges), ("unicode/utf8.first", laid_unicode_utf8_first)], narrowed := true }
def FnExactConfOkUptoSaid : Prop := fnExactConfOkUptoRow.holds Tryd.pinned (OpenSpec.upto fnExactConfOkSpec)

/-- 'laws.FnAddrGet', WHERE WHAT IT READS IS OF BULK AT MOST 1048576: true; the input reads as it did. -/
def fnAddrGetUptoRow : OpenClaim := { program := "ytpeefjfklklhdaadoor", sum := "f37e85be05383e63754156fb17b4eb2ce56bf99ce3169389ae92046427e86f82", func := "loop.example/satchel/laws.FnAddrGet", spec := "fnAddrGet", inPlace := ["internal/bytealg.IndexByteString", "internal/bytealg.IndexString", "internal/bytealg.CountString"], named := ["internal/bytealg.MaxLen", "unicode/utf8.first", "unicode/utf8.acceptRanges"], apart := false, laid := [("unicode/utf8.acceptRanges", laid_unicode_utf8_acceptRanges), ("unicode/utf8.first", laid_unicode_utf8_first)], narrowed := true }
def FnAddrGetUptoSaid : Prop := fnAddrGetUptoRow.holds Tryd.pinned (OpenSpec.upto fnAddrGetSpec)

/-- 'laws.FnExactSessHello', WHERE WHAT IT READS IS OF BULK AT MOST 1048576: true; the input reads as it did. -/
def fnExactSessHelloUptoRow : OpenClaim := { program := "ytpeefjfklklhdaadoor", sum := "f37e85be05383e63754156fb17b4eb2ce56bf99ce3169389ae92046427e86f82", func := "loop.example/satchel/laws.FnExactSessHello", spec := "fnExactSessHello", inPlace := ["internal/bytealg.CountString", "internal/bytealg.IndexByteString", "internal/bytealg.IndexString"], unfollowed := true, recurses := true, named := ["unicode/utf8.first", "unicode/utf8.acceptRanges", "internal/bytealg.MaxLen"], apart := false, laid := [("unicode/utf8.acceptRanges", laid_unicode_utf8_acceptRanges), ("unicode/utf8.first", laid_unicode_utf8_first)], narrowed := true }
def FnExactSessHelloUptoSaid : Prop := fnExactSessHelloUptoRow.holds Tryd.pinned (OpenSpec.upto fnExactSessHelloSpec)

/-- 'laws.FnTakes', WHERE WHAT IT READS IS OF BULK AT MOST 1048576: true; the input reads as it did. -/
def fnTakesUptoRow : OpenClaim := { program := "ytpeefjfklklhdaadoor", sum := "f37e85be05383e63754156fb17b4eb2ce56bf99ce3169389ae92046427e86f82", func := "loop.example/satchel/laws.FnTakes", spec := "fnTakes", inPlace := ["internal/bytealg.CountString", "internal/bytealg.IndexByteString", "internal/bytealg.IndexString"], unfollowed := true, recurses := true, named := ["unicode/utf8.first", "unicode/utf8.acceptRanges", "internal/bytealg.MaxLen"], apart := false, laid := [("unicode/utf8.acceptRanges", laid_unicode_utf8_acceptRanges), ("unicode/utf8.first", laid_unicode_utf8_first)], narrowed := true }
def FnTakesUptoSaid : Prop := fnTakesUptoRow.holds Tryd.pinned (OpenSpec.upto fnTakesSpec)

/-- 'laws.FnWay', WHERE WHAT IT READS IS OF BULK AT MOST 1048576: true; the input reads as it did. -/
def fnWayUptoRow : OpenClaim := { program := "ytpeefjfklklhdaadoor", sum := "f37e85be05383e63754156fb17b4eb2ce56bf99ce3169389ae92046427e86f82", func := "loop.example/satchel/laws.FnWay", spec := "fnWay", inPlace := ["internal/bytealg.CountString", "internal/bytealg.IndexByteString", "internal/bytealg.IndexString"], unfollowed := true, recurses := true, named := ["unicode/utf8.first", "unicode/utf8.acceptRanges", "internal/bytealg.MaxLen"], apart := false, laid := [("unicode/utf8.acceptRanges", laid_unicode_utf8_acceptRanges), ("unicode/utf8.first", laid_unicode_utf8_first)], narrowed := true }
def FnWayUptoSaid : Prop := fnWayUptoRow.holds Tryd.pinned (OpenSpec.upto fnWaySpec)

/-- 'laws.FnHops', WHERE WHAT IT READS IS OF BULK AT MOST 1048576: true; the input reads as it did. -/
def fnHopsUptoRow : OpenClaim := { program := "ytpeefjfklklhdaadoor", sum := "f37e85be05383e63754156fb17b4eb2ce56bf99ce3169389ae92046427e86f82", func := "loop.example/satchel/laws.FnHops", spec := "fnHops", inPlace := ["internal/bytealg.CountString", "internal/bytealg.IndexByteString", "internal/bytealg.IndexString"], unfollowed := true, recurses := true, named := ["unicode/utf8.first", "unicode/utf8.acceptRanges", "internal/bytealg.MaxLen"], apart := false, laid := [("unicode/utf8.acceptRanges", laid_unicode_utf8_acceptRanges), ("unicode/utf8.first", laid_unicode_utf8_first)], narrowed := true }
def FnHopsUptoSaid : Prop := fnHopsUptoRow.holds Tryd.pinned (OpenSpec.upto fnHopsSpec)

end Rows
end Go.Proofs.YtpeefjfklklhdaaDoor
