/-
  DERIVED. GIVEN WITH THE SEED: THE CARDS: each row of YthkibaldmjfmmaaDoorRows.lean that lists a variable, with what it lists TIED to the program's text (the seventh form; the later family's looks); each row that meets fmt, with fmt's text TOLD by the authors' own Lean function (tested against real Go, not proved from fmt's source: count such statements apart). THE CARD IS WHAT COUNTS. Prove the row's statement (the work); the ties are given (YthkibaldmjfmmaaDoorTie.lean); close each card by the builder's one call (the guide's Derived/Test/ToyasCard.lean, 'card_holds'). Laid BY PROGRAM, IN A SANDBOX (cutbox-door.mjs). By AI agents, Wed Nov 11 2026. No macro, syntax, notation, axiom, sorry.
-/
import Derived.Test.YthkibaldmjfmmaaDoorRows
import GoSem.ClaimSeven
namespace Go.Proofs.YthkibaldmjfmmaaDoor
namespace Rows

/-- THE TIED CARD OF 'laws.FnExactMailOk'. -/
def fnExactMailOkCard : Claim7 := { stood := { row := fnExactMailOkRow, standIns := [], harness := (true, "98de621f58e85ad6d7f6f1001a6c879b32040730586af47310caf414202fa80d"), looks := false }, kinds := [], alts := [], laidByText := true, laidKinds := [.data, .pinned], laidTests := true, laidLooks := .later }
def FnExactMailOkCardSaid : Prop := Claim7.holds Tryd.pinned (.plain (OpenSpec.ofChange fnExactMailOkSpec)) fnExactMailOkCard

/-- THE TIED CARD OF 'laws.FnExactWayOf'. -/
def fnExactWayOfCard : Claim7 := { stood := { row := fnExactWayOfRow, standIns := [], harness := (true, "98de621f58e85ad6d7f6f1001a6c879b32040730586af47310caf414202fa80d"), looks := false }, kinds := [], alts := [], laidByText := true, laidKinds := [.data, .pinned], laidTests := true, laidLooks := .later }
def FnExactWayOfCardSaid : Prop := Claim7.holds Tryd.pinned (.plain (OpenSpec.ofChange fnExactWayOfSpec)) fnExactWayOfCard

/-- THE TIED CARD OF 'laws.FnExactConfTakes'. -/
def fnExactConfTakesCard : Claim7 := { stood := { row := fnExactConfTakesRow, standIns := [], harness := (true, "98de621f58e85ad6d7f6f1001a6c879b32040730586af47310caf414202fa80d"), looks := false }, kinds := [], alts := [], laidByText := true, laidKinds := [.data, .pinned], laidTests := true, laidLooks := .later }
def FnExactConfTakesCardSaid : Prop := Claim7.holds Tryd.pinned (.plain (OpenSpec.ofChange fnExactConfTakesSpec)) fnExactConfTakesCard

/-- THE TIED CARD OF 'laws.FnExactNoteOk'. -/
def fnExactNoteOkCard : Claim7 := { stood := { row := fnExactNoteOkRow, standIns := [], harness := (true, "98de621f58e85ad6d7f6f1001a6c879b32040730586af47310caf414202fa80d"), looks := false }, kinds := [], alts := [], laidByText := true, laidKinds := [.data, .pinned], laidTests := true, laidLooks := .later }
def FnExactNoteOkCardSaid : Prop := Claim7.holds Tryd.pinned (.plain (OpenSpec.ofChange fnExactNoteOkSpec)) fnExactNoteOkCard

/-- THE TIED CARD OF 'laws.FnExactCliOk'. -/
def fnExactCliOkCard : Claim7 := { stood := { row := fnExactCliOkRow, standIns := [], harness := (true, "98de621f58e85ad6d7f6f1001a6c879b32040730586af47310caf414202fa80d"), looks := false }, kinds := [], alts := [], laidByText := true, laidKinds := [.data, .pinned], laidTests := true, laidLooks := .later }
def FnExactCliOkCardSaid : Prop := Claim7.holds Tryd.pinned (.plain (OpenSpec.ofChange fnExactCliOkSpec)) fnExactCliOkCard

/-- THE TIED CARD OF 'laws.FnCliNew'. -/
def fnCliNewCard : Claim7 := { stood := { row := fnCliNewRow, standIns := [], harness := (true, "98de621f58e85ad6d7f6f1001a6c879b32040730586af47310caf414202fa80d"), looks := false }, kinds := [], alts := [], laidByText := true, laidKinds := [.data, .pinned], laidTests := true, laidLooks := .later }
def FnCliNewCardSaid : Prop := Claim7.holds Tryd.pinned (.plain (OpenSpec.ofChange fnCliNewSpec)) fnCliNewCard

/-- THE TIED CARD OF 'laws.FnExactMailPut'. -/
def fnExactMailPutCard : Claim7 := { stood := { row := fnExactMailPutRow, standIns := [], harness := (true, "98de621f58e85ad6d7f6f1001a6c879b32040730586af47310caf414202fa80d"), looks := false }, kinds := [], alts := [], laidByText := true, laidKinds := [.data, .pinned], laidTests := true, laidLooks := .later }
def FnExactMailPutCardSaid : Prop := Claim7.holds Tryd.pinned (.plain (OpenSpec.ofChange fnExactMailPutSpec)) fnExactMailPutCard

/-- THE SECOND FORM's CARD OF 'laws.FnExactMailOk'. -/
def fnExactMailOkUptoCard : Claim7 := { stood := { row := fnExactMailOkUptoRow, standIns := [], harness := (true, "98de621f58e85ad6d7f6f1001a6c879b32040730586af47310caf414202fa80d"), looks := false }, kinds := [], alts := [], laidByText := true, laidKinds := [.data, .pinned], laidTests := true, laidLooks := .later }
def FnExactMailOkUptoCardSaid : Prop := Claim7.holds Tryd.pinned (.plain (OpenSpec.upto fnExactMailOkSpec)) fnExactMailOkUptoCard

/-- THE SECOND FORM's CARD OF 'laws.FnExactWayOf'. -/
def fnExactWayOfUptoCard : Claim7 := { stood := { row := fnExactWayOfUptoRow, standIns := [], harness := (true, "98de621f58e85ad6d7f6f1001a6c879b32040730586af47310caf414202fa80d"), looks := false }, kinds := [], alts := [], laidByText := true, laidKinds := [.data, .pinned], laidTests := true, laidLooks := .later }
def FnExactWayOfUptoCardSaid : Prop := Claim7.holds Tryd.pinned (.plain (OpenSpec.upto fnExactWayOfSpec)) fnExactWayOfUptoCard

/-- THE SECOND FORM's CARD OF 'laws.FnExactConfTakes'. -/
def fnExactConfTakesUptoCard : Claim7 := { stood := { row := fnExactConfTakesUptoRow, standIns := [], harness := (true, "98de621f58e85ad6d7f6f1001a6c879b32040730586af47310caf414202fa80d"), looks := false }, kinds := [], alts := [], laidByText := true, laidKinds := [.data, .pinned], laidTests := true, laidLooks := .later }
def FnExactConfTakesUptoCardSaid : Prop := Claim7.holds Tryd.pinned (.plain (OpenSpec.upto fnExactConfTakesSpec)) fnExactConfTakesUptoCard

/-- THE SECOND FORM's CARD OF 'laws.FnExactNoteOk'. -/
def fnExactNoteOkUptoCard : Claim7 := { stood := { row := fnExactNoteOkUptoRow, standIns := [], harness := (true, "98de621f58e85ad6d7f6f1001a6c879b32040730586af47310caf414202fa80d"), looks := false }, kinds := [], alts := [], laidByText := true, laidKinds := [.data, .pinned], laidTests := true, laidLooks := .later }
def FnExactNoteOkUptoCardSaid : Prop := Claim7.holds Tryd.pinned (.plain (OpenSpec.upto fnExactNoteOkSpec)) fnExactNoteOkUptoCard

/-- THE SECOND FORM's CARD OF 'laws.FnExactCliOk'. -/
def fnExactCliOkUptoCard : Claim7 := { stood := { row := fnExactCliOkUptoRow, standIns := [], harness := (true, "98de621f58e85ad6d7f6f1001a6c879b32040730586af47310caf414202fa80d"), looks := false }, kinds := [], alts := [], laidByText := true, laidKinds := [.data, .pinned], laidTests := true, laidLooks := .later }
def FnExactCliOkUptoCardSaid : Prop := Claim7.holds Tryd.pinned (.plain (OpenSpec.upto fnExactCliOkSpec)) fnExactCliOkUptoCard

/-- THE SECOND FORM's CARD OF 'laws.FnCliNew'. -/
def fnCliNewUptoCard : Claim7 := { stood := { row := fnCliNewUptoRow, standIns := [], harness := (true, "98de621f58e85ad6d7f6f1001a6c879b32040730586af47310caf414202fa80d"), looks := false }, kinds := [], alts := [], laidByText := true, laidKinds := [.data, .pinned], laidTests := true, laidLooks := .later }
def FnCliNewUptoCardSaid : Prop := Claim7.holds Tryd.pinned (.plain (OpenSpec.upto fnCliNewSpec)) fnCliNewUptoCard

/-- THE SECOND FORM's CARD OF 'laws.FnExactMailPut'. -/
def fnExactMailPutUptoCard : Claim7 := { stood := { row := fnExactMailPutUptoRow, standIns := [], harness := (true, "98de621f58e85ad6d7f6f1001a6c879b32040730586af47310caf414202fa80d"), looks := false }, kinds := [], alts := [], laidByText := true, laidKinds := [.data, .pinned], laidTests := true, laidLooks := .later }
def FnExactMailPutUptoCardSaid : Prop := Claim7.holds Tryd.pinned (.plain (OpenSpec.upto fnExactMailPutSpec)) fnExactMailPutUptoCard
end Rows
end Go.Proofs.YthkibaldmjfmmaaDoor
