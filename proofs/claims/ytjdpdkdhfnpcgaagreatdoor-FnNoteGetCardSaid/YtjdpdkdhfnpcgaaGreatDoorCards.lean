/-
  DERIVED. GIVEN WITH THE SEED: THE CARDS: each row of YtjdpdkdhfnpcgaaGreatDoorRows.lean that lists a variable, with what it lists TIED to the program's text (the seventh form; the later family's looks); each row that meets fmt, with fmt's text TOLD by the authors' own Lean function (tested against real Go, not proved from fmt's source: count such statements apart). THE CARD IS WHAT COUNTS. Prove the row's statement (the work); the ties are given (YtjdpdkdhfnpcgaaGreatDoorTie.lean); close each card by the builder's one call (the guide's Derived/Test/ToyasCard.lean, 'card_holds'). Laid BY PROGRAM, IN A SANDBOX (cutbox-door.mjs). By AI agents, Wed Nov 11 2026. No macro, syntax, notation, axiom, sorry.
-/
import Derived.Test.YtjdpdkdhfnpcgaaGreatDoorRows
import GoSem.ClaimSeven
namespace Go.Proofs.YtjdpdkdhfnpcgaaGreatDoor
namespace Rows

/-- THE TIED CARD OF 'laws.FnNotePut'. -/
def fnNotePutCard : Claim7 := { stood := { row := fnNotePutRow, standIns := [], harness := (true, "f7268ec986122922c71863264e8c45a043b9b6be715e48699f61b4a4103470a3"), looks := true }, kinds := [], alts := [], laidByText := true, laidKinds := [.data, .data, .data, .data, .sentinel, .sentinel, .pinned], laidTests := true, laidLooks := .later }
def FnNotePutCardSaid : Prop := Claim7.holds Tryz.pinned (.plain (OpenSpec.ofChange fnNotePutSpec)) fnNotePutCard

/-- THE TIED CARD OF 'laws.FnExactNoteGet'. -/
def fnExactNoteGetCard : Claim7 := { stood := { row := fnExactNoteGetRow, standIns := [], harness := (true, "f7268ec986122922c71863264e8c45a043b9b6be715e48699f61b4a4103470a3"), looks := true }, kinds := [], alts := [], laidByText := true, laidKinds := [.data, .data, .data, .data, .sentinel, .sentinel, .pinned], laidTests := true, laidLooks := .later }
def FnExactNoteGetCardSaid : Prop := Claim7.holds Tryz.pinned (.plain (OpenSpec.ofChange fnExactNoteGetSpec)) fnExactNoteGetCard

/-- THE TIED CARD OF 'laws.FnNoteGet'. -/
def fnNoteGetCard : Claim7 := { stood := { row := fnNoteGetRow, standIns := [], harness := (true, "f7268ec986122922c71863264e8c45a043b9b6be715e48699f61b4a4103470a3"), looks := true }, kinds := [], alts := [], laidByText := true, laidKinds := [.data, .data, .data, .data, .sentinel, .sentinel, .pinned], laidTests := true, laidLooks := .later }
def FnNoteGetCardSaid : Prop := Claim7.holds Tryz.pinned (.plain (OpenSpec.ofChange fnNoteGetSpec)) fnNoteGetCard

/-- THE TIED CARD OF 'laws.FnExactNotePut'. -/
def fnExactNotePutCard : Claim7 := { stood := { row := fnExactNotePutRow, standIns := [], harness := (true, "f7268ec986122922c71863264e8c45a043b9b6be715e48699f61b4a4103470a3"), looks := true }, kinds := [], alts := [], laidByText := true, laidKinds := [.data, .data, .data, .data, .pinned], laidTests := true, laidLooks := .later }
def FnExactNotePutCardSaid : Prop := Claim7.holds Tryz.pinned (.plain (OpenSpec.ofChange fnExactNotePutSpec)) fnExactNotePutCard

/-- THE SECOND FORM's CARD OF 'laws.FnNotePut'. -/
def fnNotePutUptoCard : Claim7 := { stood := { row := fnNotePutUptoRow, standIns := [], harness := (true, "f7268ec986122922c71863264e8c45a043b9b6be715e48699f61b4a4103470a3"), looks := true }, kinds := [], alts := [], laidByText := true, laidKinds := [.data, .data, .data, .data, .sentinel, .sentinel, .pinned], laidTests := true, laidLooks := .later }
def FnNotePutUptoCardSaid : Prop := Claim7.holds Tryz.pinned (.plain (OpenSpec.upto fnNotePutSpec)) fnNotePutUptoCard

/-- THE SECOND FORM's CARD OF 'laws.FnExactNoteGet'. -/
def fnExactNoteGetUptoCard : Claim7 := { stood := { row := fnExactNoteGetUptoRow, standIns := [], harness := (true, "f7268ec986122922c71863264e8c45a043b9b6be715e48699f61b4a4103470a3"), looks := true }, kinds := [], alts := [], laidByText := true, laidKinds := [.data, .data, .data, .data, .sentinel, .sentinel, .pinned], laidTests := true, laidLooks := .later }
def FnExactNoteGetUptoCardSaid : Prop := Claim7.holds Tryz.pinned (.plain (OpenSpec.upto fnExactNoteGetSpec)) fnExactNoteGetUptoCard

/-- THE SECOND FORM's CARD OF 'laws.FnNoteGet'. -/
def fnNoteGetUptoCard : Claim7 := { stood := { row := fnNoteGetUptoRow, standIns := [], harness := (true, "f7268ec986122922c71863264e8c45a043b9b6be715e48699f61b4a4103470a3"), looks := true }, kinds := [], alts := [], laidByText := true, laidKinds := [.data, .data, .data, .data, .sentinel, .sentinel, .pinned], laidTests := true, laidLooks := .later }
def FnNoteGetUptoCardSaid : Prop := Claim7.holds Tryz.pinned (.plain (OpenSpec.upto fnNoteGetSpec)) fnNoteGetUptoCard

/-- THE SECOND FORM's CARD OF 'laws.FnExactNotePut'. -/
def fnExactNotePutUptoCard : Claim7 := { stood := { row := fnExactNotePutUptoRow, standIns := [], harness := (true, "f7268ec986122922c71863264e8c45a043b9b6be715e48699f61b4a4103470a3"), looks := true }, kinds := [], alts := [], laidByText := true, laidKinds := [.data, .data, .data, .data, .pinned], laidTests := true, laidLooks := .later }
def FnExactNotePutUptoCardSaid : Prop := Claim7.holds Tryz.pinned (.plain (OpenSpec.upto fnExactNotePutSpec)) fnExactNotePutUptoCard
end Rows
end Go.Proofs.YtjdpdkdhfnpcgaaGreatDoor
