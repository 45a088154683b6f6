/-
  DERIVED. GIVEN WITH THE SEED: THE CARDS: each row of YtbabdndgaafoaaaDoorRows.lean that lists a variable, with what it lists TIED to the program's text (the seventh form; the later family's looks); each row that meets fmt, with fmt's text TOLD by the authors' own Lean function (tested against real Go, not proved from fmt's source: count such statements apart). THE CARD IS WHAT COUNTS. Prove the row's statement (the work); the ties are given (YtbabdndgaafoaaaDoorTie.lean); close each card by the builder's one call (the guide's Derived/Test/ToyasCard.lean, 'card_holds'). Laid BY PROGRAM, IN A SANDBOX (cutbox-door.mjs). By AI agents, Wed Nov 11 2026. No macro, syntax, notation, axiom, sorry.
-/
import Derived.Test.YtbabdndgaafoaaaDoorRows
import GoSem.ClaimSeven
namespace Go.Proofs.YtbabdndgaafoaaaDoor
namespace Rows

/-- THE TIED CARD OF 'laws.FnExactDomainOk'. -/
def fnExactDomainOkCard : Claim7 := { stood := { row := fnExactDomainOkRow, standIns := [], harness := (true, "50a627797a8cb096b6c1ac9457b3fd3fb0bc0c6d70cc19baafe6a8898ca67f1b"), looks := false }, kinds := [], alts := [], laidByText := true, laidKinds := [.data, .pinned], laidTests := true, laidLooks := .later }
def FnExactDomainOkCardSaid : Prop := Claim7.holds Tryd.pinned (.plain (OpenSpec.ofChange fnExactDomainOkSpec)) fnExactDomainOkCard

/-- THE TIED CARD OF 'laws.FnExactDomainIn'. -/
def fnExactDomainInCard : Claim7 := { stood := { row := fnExactDomainInRow, standIns := [], harness := (true, "50a627797a8cb096b6c1ac9457b3fd3fb0bc0c6d70cc19baafe6a8898ca67f1b"), looks := false }, kinds := [], alts := [], laidByText := true, laidKinds := [.data, .pinned], laidTests := true, laidLooks := .later }
def FnExactDomainInCardSaid : Prop := Claim7.holds Tryd.pinned (.plain (OpenSpec.ofChange fnExactDomainInSpec)) fnExactDomainInCard

/-- THE TIED CARD OF 'laws.FnExactAddrOk'. -/
def fnExactAddrOkCard : Claim7 := { stood := { row := fnExactAddrOkRow, standIns := [], harness := (true, "50a627797a8cb096b6c1ac9457b3fd3fb0bc0c6d70cc19baafe6a8898ca67f1b"), looks := false }, kinds := [], alts := [], laidByText := true, laidKinds := [.data, .pinned], laidTests := true, laidLooks := .later }
def FnExactAddrOkCardSaid : Prop := Claim7.holds Tryd.pinned (.plain (OpenSpec.ofChange fnExactAddrOkSpec)) fnExactAddrOkCard

/-- THE SECOND FORM's CARD OF 'laws.FnExactDomainOk'. -/
def fnExactDomainOkUptoCard : Claim7 := { stood := { row := fnExactDomainOkUptoRow, standIns := [], harness := (true, "50a627797a8cb096b6c1ac9457b3fd3fb0bc0c6d70cc19baafe6a8898ca67f1b"), looks := false }, kinds := [], alts := [], laidByText := true, laidKinds := [.data, .pinned], laidTests := true, laidLooks := .later }
def FnExactDomainOkUptoCardSaid : Prop := Claim7.holds Tryd.pinned (.plain (OpenSpec.upto fnExactDomainOkSpec)) fnExactDomainOkUptoCard

/-- THE SECOND FORM's CARD OF 'laws.FnExactDomainIn'. -/
def fnExactDomainInUptoCard : Claim7 := { stood := { row := fnExactDomainInUptoRow, standIns := [], harness := (true, "50a627797a8cb096b6c1ac9457b3fd3fb0bc0c6d70cc19baafe6a8898ca67f1b"), looks := false }, kinds := [], alts := [], laidByText := true, laidKinds := [.data, .pinned], laidTests := true, laidLooks := .later }
def FnExactDomainInUptoCardSaid : Prop := Claim7.holds Tryd.pinned (.plain (OpenSpec.upto fnExactDomainInSpec)) fnExactDomainInUptoCard

/-- THE SECOND FORM's CARD OF 'laws.FnExactAddrOk'. -/
def fnExactAddrOkUptoCard : Claim7 := { stood := { row := fnExactAddrOkUptoRow, standIns := [], harness := (true, "50a627797a8cb096b6c1ac9457b3fd3fb0bc0c6d70cc19baafe6a8898ca67f1b"), looks := false }, kinds := [], alts := [], laidByText := true, laidKinds := [.data, .pinned], laidTests := true, laidLooks := .later }
def FnExactAddrOkUptoCardSaid : Prop := Claim7.holds Tryd.pinned (.plain (OpenSpec.upto fnExactAddrOkSpec)) fnExactAddrOkUptoCard
end Rows
end Go.Proofs.YtbabdndgaafoaaaDoor
