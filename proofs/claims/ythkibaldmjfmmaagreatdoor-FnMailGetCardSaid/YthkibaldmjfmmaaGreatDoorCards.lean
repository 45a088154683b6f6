/-
  DERIVED. GIVEN WITH THE SEED: THE CARDS: each row of YthkibaldmjfmmaaGreatDoorRows.lean that lists a variable, with what it lists TIED to the program's text (the seventh form; the later family's looks); each row that meets fmt, with fmt's text TOLD by the authors' own Lean function (tested against real Go, not proved from fmt's source: count such statements apart). THE CARD IS WHAT COUNTS. Prove the row's statement (the work); the ties are given (YthkibaldmjfmmaaGreatDoorTie.lean); close each card by the builder's one call (the guide's Derived/Test/ToyasCard.lean, 'card_holds'). Laid BY PROGRAM, IN A SANDBOX (cutbox-door.mjs). By AI agents, Wed Nov 11 2026. No macro, syntax, notation, axiom, sorry.
-/
import Derived.Test.YthkibaldmjfmmaaGreatDoorRows
import GoSem.ClaimSeven
namespace Go.Proofs.YthkibaldmjfmmaaGreatDoor
namespace Rows

/-- THE TIED CARD OF 'laws.FnMailPut'. -/
def fnMailPutCard : Claim7 := { stood := { row := fnMailPutRow, standIns := [], harness := (true, "bcd08a7ccd9061e69cdbdd9efc8bef36efe9580b8b2d614be3caa9e90aa7270b"), looks := false }, kinds := [], alts := [], laidByText := true, laidKinds := [.data, .pinned], laidTests := true, laidLooks := .later }
def FnMailPutCardSaid : Prop := Claim7.holds Tryz.pinned (.plain (OpenSpec.ofChange fnMailPutSpec)) fnMailPutCard

/-- THE TIED CARD OF 'laws.FnExactMailGet'. -/
def fnExactMailGetCard : Claim7 := { stood := { row := fnExactMailGetRow, standIns := [], harness := (true, "bcd08a7ccd9061e69cdbdd9efc8bef36efe9580b8b2d614be3caa9e90aa7270b"), looks := false }, kinds := [], alts := [], laidByText := true, laidKinds := [.data, .pinned], laidTests := true, laidLooks := .later }
def FnExactMailGetCardSaid : Prop := Claim7.holds Tryz.pinned (.plain (OpenSpec.ofChange fnExactMailGetSpec)) fnExactMailGetCard

/-- THE TIED CARD OF 'laws.FnMailGet'. -/
def fnMailGetCard : Claim7 := { stood := { row := fnMailGetRow, standIns := [], harness := (true, "bcd08a7ccd9061e69cdbdd9efc8bef36efe9580b8b2d614be3caa9e90aa7270b"), looks := false }, kinds := [], alts := [], laidByText := true, laidKinds := [.data, .pinned], laidTests := true, laidLooks := .later }
def FnMailGetCardSaid : Prop := Claim7.holds Tryz.pinned (.plain (OpenSpec.ofChange fnMailGetSpec)) fnMailGetCard

/-- THE SECOND FORM's CARD OF 'laws.FnMailPut'. -/
def fnMailPutUptoCard : Claim7 := { stood := { row := fnMailPutUptoRow, standIns := [], harness := (true, "bcd08a7ccd9061e69cdbdd9efc8bef36efe9580b8b2d614be3caa9e90aa7270b"), looks := false }, kinds := [], alts := [], laidByText := true, laidKinds := [.data, .pinned], laidTests := true, laidLooks := .later }
def FnMailPutUptoCardSaid : Prop := Claim7.holds Tryz.pinned (.plain (OpenSpec.upto fnMailPutSpec)) fnMailPutUptoCard

/-- THE SECOND FORM's CARD OF 'laws.FnExactMailGet'. -/
def fnExactMailGetUptoCard : Claim7 := { stood := { row := fnExactMailGetUptoRow, standIns := [], harness := (true, "bcd08a7ccd9061e69cdbdd9efc8bef36efe9580b8b2d614be3caa9e90aa7270b"), looks := false }, kinds := [], alts := [], laidByText := true, laidKinds := [.data, .pinned], laidTests := true, laidLooks := .later }
def FnExactMailGetUptoCardSaid : Prop := Claim7.holds Tryz.pinned (.plain (OpenSpec.upto fnExactMailGetSpec)) fnExactMailGetUptoCard

/-- THE SECOND FORM's CARD OF 'laws.FnMailGet'. -/
def fnMailGetUptoCard : Claim7 := { stood := { row := fnMailGetUptoRow, standIns := [], harness := (true, "bcd08a7ccd9061e69cdbdd9efc8bef36efe9580b8b2d614be3caa9e90aa7270b"), looks := false }, kinds := [], alts := [], laidByText := true, laidKinds := [.data, .pinned], laidTests := true, laidLooks := .later }
def FnMailGetUptoCardSaid : Prop := Claim7.holds Tryz.pinned (.plain (OpenSpec.upto fnMailGetSpec)) fnMailGetUptoCard
end Rows
end Go.Proofs.YthkibaldmjfmmaaGreatDoor
