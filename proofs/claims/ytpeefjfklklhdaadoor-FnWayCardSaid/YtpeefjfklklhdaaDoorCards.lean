/-
  DERIVED. GIVEN WITH THE SEED: THE CARDS: each row of YtpeefjfklklhdaaDoorRows.lean that lists a variable, with what it lists TIED to the program's text (the seventh form; the later family's looks); each row that meets fmt, with fmt's text TOLD by the authors' own Lean function (tested against real Go, not proved from fmt's source: count such statements apart). THE CARD IS WHAT COUNTS. Prove the row's statement (the work); the ties are given (YtpeefjfklklhdaaDoorTie.lean); close each card by the builder's one call (the guide's Derived/Test/ToyasCard.lean, 'card_holds'). Laid BY PROGRAM, IN A SANDBOX (cutbox-door.mjs). By AI agents, Wed Nov 11 2026. No macro, syntax, notation, axiom, sorry.
-/
import Derived.Test.YtpeefjfklklhdaaDoorRows
import GoSem.ClaimSeven
namespace Go.Proofs.YtpeefjfklklhdaaDoor
namespace Rows

/-- THE TIED CARD OF 'laws.FnDomain'. -/
def fnDomainCard : Claim7 := { stood := { row := fnDomainRow, standIns := [], harness := (true, "160a7018341a68ce38edb4b8f0676252844933bebfc7a6aa621c4fca1e8fc77d"), looks := false }, kinds := [], alts := [], laidByText := true, laidKinds := [.data, .pinned], laidTests := true, laidLooks := .later }
def FnDomainCardSaid : Prop := Claim7.holds Tryd.pinned (.plain (OpenSpec.ofChange fnDomainSpec)) fnDomainCard

/-- THE TIED CARD OF 'laws.FnExactAddrPut'. -/
def fnExactAddrPutCard : Claim7 := { stood := { row := fnExactAddrPutRow, standIns := [], harness := (true, "160a7018341a68ce38edb4b8f0676252844933bebfc7a6aa621c4fca1e8fc77d"), looks := false }, kinds := [], alts := [], laidByText := true, laidKinds := [.data, .pinned], laidTests := true, laidLooks := .later }
def FnExactAddrPutCardSaid : Prop := Claim7.holds Tryd.pinned (.plain (OpenSpec.ofChange fnExactAddrPutSpec)) fnExactAddrPutCard

/-- THE TIED CARD OF 'laws.FnExactAddrGet'. -/
def fnExactAddrGetCard : Claim7 := { stood := { row := fnExactAddrGetRow, standIns := [], harness := (true, "160a7018341a68ce38edb4b8f0676252844933bebfc7a6aa621c4fca1e8fc77d"), looks := false }, kinds := [], alts := [], laidByText := true, laidKinds := [.data, .pinned], laidTests := true, laidLooks := .later }
def FnExactAddrGetCardSaid : Prop := Claim7.holds Tryd.pinned (.plain (OpenSpec.ofChange fnExactAddrGetSpec)) fnExactAddrGetCard

/-- THE TIED CARD OF 'laws.FnExactHopsOf'. -/
def fnExactHopsOfCard : Claim7 := { stood := { row := fnExactHopsOfRow, standIns := [], harness := (true, "160a7018341a68ce38edb4b8f0676252844933bebfc7a6aa621c4fca1e8fc77d"), looks := false }, kinds := [], alts := [], laidByText := true, laidKinds := [.data, .pinned], laidTests := true, laidLooks := .later }
def FnExactHopsOfCardSaid : Prop := Claim7.holds Tryd.pinned (.plain (OpenSpec.ofChange fnExactHopsOfSpec)) fnExactHopsOfCard

/-- THE TIED CARD OF 'laws.FnAddrPut'. -/
def fnAddrPutCard : Claim7 := { stood := { row := fnAddrPutRow, standIns := [], harness := (true, "160a7018341a68ce38edb4b8f0676252844933bebfc7a6aa621c4fca1e8fc77d"), looks := false }, kinds := [], alts := [], laidByText := true, laidKinds := [.data, .pinned], laidTests := true, laidLooks := .later }
def FnAddrPutCardSaid : Prop := Claim7.holds Tryd.pinned (.plain (OpenSpec.ofChange fnAddrPutSpec)) fnAddrPutCard

/-- THE TIED CARD OF 'laws.FnExactHopPut'. -/
def fnExactHopPutCard : Claim7 := { stood := { row := fnExactHopPutRow, standIns := [], harness := (true, "160a7018341a68ce38edb4b8f0676252844933bebfc7a6aa621c4fca1e8fc77d"), looks := false }, kinds := [], alts := [], laidByText := true, laidKinds := [.data, .pinned], laidTests := true, laidLooks := .later }
def FnExactHopPutCardSaid : Prop := Claim7.holds Tryd.pinned (.plain (OpenSpec.ofChange fnExactHopPutSpec)) fnExactHopPutCard

/-- THE TIED CARD OF 'laws.FnExactConfOk'. -/
def fnExactConfOkCard : Claim7 := { stood := { row := fnExactConfOkRow, standIns := [], harness := (true, "160a7018341a68ce38edb4b8f0676252844933bebfc7a6aa621c4fca1e8fc77d"), looks := false }, kinds := [], alts := [], laidByText := true, laidKinds := [.data, .pinned], laidTests := true, laidLooks := .later }
def FnExactConfOkCardSaid : Prop := Claim7.holds Tryd.pinned (.plain (OpenSpec.ofChange fnExactConfOkSpec)) fnExactConfOkCard

/-- THE TIED CARD OF 'laws.FnAddrGet'. -/
def fnAddrGetCard : Claim7 := { stood := { row := fnAddrGetRow, standIns := [], harness := (true, "160a7018341a68ce38edb4b8f0676252844933bebfc7a6aa621c4fca1e8fc77d"), looks := false }, kinds := [], alts := [], laidByText := true, laidKinds := [.data, .pinned], laidTests := true, laidLooks := .later }
def FnAddrGetCardSaid : Prop := Claim7.holds Tryd.pinned (.plain (OpenSpec.ofChange fnAddrGetSpec)) fnAddrGetCard

/-- THE TIED CARD OF 'laws.FnExactSessHello'. -/
def fnExactSessHelloCard : Claim7 := { stood := { row := fnExactSessHelloRow, standIns := [], harness := (true, "160a7018341a68ce38edb4b8f0676252844933bebfc7a6aa621c4fca1e8fc77d"), looks := false }, kinds := [], alts := [], laidByText := true, laidKinds := [.data, .pinned], laidTests := true, laidLooks := .later }
def FnExactSessHelloCardSaid : Prop := Claim7.holds Tryd.pinned (.plain (OpenSpec.ofChange fnExactSessHelloSpec)) fnExactSessHelloCard

/-- THE TIED CARD OF 'laws.FnTakes'. -/
def fnTakesCard : Claim7 := { stood := { row := fnTakesRow, standIns := [], harness := (true, "160a7018341a68ce38edb4b8f0676252844933bebfc7a6aa621c4fca1e8fc77d"), looks := false }, kinds := [], alts := [], laidByText := true, laidKinds := [.data, .pinned], laidTests := true, laidLooks := .later }
def FnTakesCardSaid : Prop := Claim7.holds Tryd.pinned (.plain (OpenSpec.ofChange fnTakesSpec)) fnTakesCard

/-- THE TIED CARD OF 'laws.FnWay'. -/
def fnWayCard : Claim7 := { stood := { row := fnWayRow, standIns := [], harness := (true, "160a7018341a68ce38edb4b8f0676252844933bebfc7a6aa621c4fca1e8fc77d"), looks := false }, kinds := [], alts := [], laidByText := true, laidKinds := [.data, .pinned], laidTests := true, laidLooks := .later }
def FnWayCardSaid : Prop := Claim7.holds Tryd.pinned (.plain (OpenSpec.ofChange fnWaySpec)) fnWayCard

/-- THE TIED CARD OF 'laws.FnHops'. -/
def fnHopsCard : Claim7 := { stood := { row := fnHopsRow, standIns := [], harness := (true, "160a7018341a68ce38edb4b8f0676252844933bebfc7a6aa621c4fca1e8fc77d"), looks := false }, kinds := [], alts := [], laidByText := true, laidKinds := [.data, .pinned], laidTests := true, laidLooks := .later }
def FnHopsCardSaid : Prop := Claim7.holds Tryd.pinned (.plain (OpenSpec.ofChange fnHopsSpec)) fnHopsCard

/-- THE SECOND FORM's CARD OF 'laws.FnDomain'. -/
def fnDomainUptoCard : Claim7 := { stood := { row := fnDomainUptoRow, standIns := [], harness := (true, "160a7018341a68ce38edb4b8f0676252844933bebfc7a6aa621c4fca1e8fc77d"), looks := false }, kinds := [], alts := [], laidByText := true, laidKinds := [.data, .pinned], laidTests := true, laidLooks := .later }
def FnDomainUptoCardSaid : Prop := Claim7.holds Tryd.pinned (.plain (OpenSpec.upto fnDomainSpec)) fnDomainUptoCard

/-- THE SECOND FORM's CARD OF 'laws.FnExactAddrPut'. -/
def fnExactAddrPutUptoCard : Claim7 := { stood := { row := fnExactAddrPutUptoRow, standIns := [], harness := (true, "160a7018341a68ce38edb4b8f0676252844933bebfc7a6aa621c4fca1e8fc77d"), looks := false }, kinds := [], alts := [], laidByText := true, laidKinds := [.data, .pinned], laidTests := true, laidLooks := .later }
def FnExactAddrPutUptoCardSaid : Prop := Claim7.holds Tryd.pinned (.plain (OpenSpec.upto fnExactAddrPutSpec)) fnExactAddrPutUptoCard

/-- THE SECOND FORM's CARD OF 'laws.FnExactAddrGet'. -/
def fnExactAddrGetUptoCard : Claim7 := { stood := { row := fnExactAddrGetUptoRow, standIns := [], harness := (true, "160a7018341a68ce38edb4b8f0676252844933bebfc7a6aa621c4fca1e8fc77d"), looks := false }, kinds := [], alts := [], laidByText := true, laidKinds := [.data, .pinned], laidTests := true, laidLooks := .later }
def FnExactAddrGetUptoCardSaid : Prop := Claim7.holds Tryd.pinned (.plain (OpenSpec.upto fnExactAddrGetSpec)) fnExactAddrGetUptoCard

/-- THE SECOND FORM's CARD OF 'laws.FnExactHopsOf'. -/
def fnExactHopsOfUptoCard : Claim7 := { stood := { row := fnExactHopsOfUptoRow, standIns := [], harness := (true, "160a7018341a68ce38edb4b8f0676252844933bebfc7a6aa621c4fca1e8fc77d"), looks := false }, kinds := [], alts := [], laidByText := true, laidKinds := [.data, .pinned], laidTests := true, laidLooks := .later }
def FnExactHopsOfUptoCardSaid : Prop := Claim7.holds Tryd.pinned (.plain (OpenSpec.upto fnExactHopsOfSpec)) fnExactHopsOfUptoCard

/-- THE SECOND FORM's CARD OF 'laws.FnAddrPut'. -/
def fnAddrPutUptoCard : Claim7 := { stood := { row := fnAddrPutUptoRow, standIns := [], harness := (true, "160a7018341a68ce38edb4b8f0676252844933bebfc7a6aa621c4fca1e8fc77d"), looks := false }, kinds := [], alts := [], laidByText := true, laidKinds := [.data, .pinned], laidTests := true, laidLooks := .later }
def FnAddrPutUptoCardSaid : Prop := Claim7.holds Tryd.pinned (.plain (OpenSpec.upto fnAddrPutSpec)) fnAddrPutUptoCard

/-- THE SECOND FORM's CARD OF 'laws.FnExactHopPut'. -/
def fnExactHopPutUptoCard : Claim7 := { stood := { row := fnExactHopPutUptoRow, standIns := [], harness := (true, "160a7018341a68ce38edb4b8f0676252844933bebfc7a6aa621c4fca1e8fc77d"), looks := false }, kinds := [], alts := [], laidByText := true, laidKinds := [.data, .pinned], laidTests := true, laidLooks := .later }
def FnExactHopPutUptoCardSaid : Prop := Claim7.holds Tryd.pinned (.plain (OpenSpec.upto fnExactHopPutSpec)) fnExactHopPutUptoCard

/-- THE SECOND FORM's CARD OF 'laws.FnExactConfOk'. -/
def fnExactConfOkUptoCard : Claim7 := { stood := { row := fnExactConfOkUptoRow, standIns := [], harness := (true, "160a7018341a68ce38edb4b8f0676252844933bebfc7a6aa621c4fca1e8fc77d"), looks := false }, kinds := [], alts := [], laidByText := true, laidKinds := [.data, .pinned], laidTests := true, laidLooks := .later }
def FnExactConfOkUptoCardSaid : Prop := Claim7.holds Tryd.pinned (.plain (OpenSpec.upto fnExactConfOkSpec)) fnExactConfOkUptoCard

/-- THE SECOND FORM's CARD OF 'laws.FnAddrGet'. -/
def fnAddrGetUptoCard : Claim7 := { stood := { row := fnAddrGetUptoRow, standIns := [], harness := (true, "160a7018341a68ce38edb4b8f0676252844933bebfc7a6aa621c4fca1e8fc77d"), looks := false }, kinds := [], alts := [], laidByText := true, laidKinds := [.data, .pinned], laidTests := true, laidLooks := .later }
def FnAddrGetUptoCardSaid : Prop := Claim7.holds Tryd.pinned (.plain (OpenSpec.upto fnAddrGetSpec)) fnAddrGetUptoCard

/-- THE SECOND FORM's CARD OF 'laws.FnExactSessHello'. -/
def fnExactSessHelloUptoCard : Claim7 := { stood := { row := fnExactSessHelloUptoRow, standIns := [], harness := (true, "160a7018341a68ce38edb4b8f0676252844933bebfc7a6aa621c4fca1e8fc77d"), looks := false }, kinds := [], alts := [], laidByText := true, laidKinds := [.data, .pinned], laidTests := true, laidLooks := .later }
def FnExactSessHelloUptoCardSaid : Prop := Claim7.holds Tryd.pinned (.plain (OpenSpec.upto fnExactSessHelloSpec)) fnExactSessHelloUptoCard

/-- THE SECOND FORM's CARD OF 'laws.FnTakes'. -/
def fnTakesUptoCard : Claim7 := { stood := { row := fnTakesUptoRow, standIns := [], harness := (true, "160a7018341a68ce38edb4b8f0676252844933bebfc7a6aa621c4fca1e8fc77d"), looks := false }, kinds := [], alts := [], laidByText := true, laidKinds := [.data, .pinned], laidTests := true, laidLooks := .later }
def FnTakesUptoCardSaid : Prop := Claim7.holds Tryd.pinned (.plain (OpenSpec.upto fnTakesSpec)) fnTakesUptoCard

/-- THE SECOND FORM's CARD OF 'laws.FnWay'. -/
def fnWayUptoCard : Claim7 := { stood := { row := fnWayUptoRow, standIns := [], harness := (true, "160a7018341a68ce38edb4b8f0676252844933bebfc7a6aa621c4fca1e8fc77d"), looks := false }, kinds := [], alts := [], laidByText := true, laidKinds := [.data, .pinned], laidTests := true, laidLooks := .later }
def FnWayUptoCardSaid : Prop := Claim7.holds Tryd.pinned (.plain (OpenSpec.upto fnWaySpec)) fnWayUptoCard

/-- THE SECOND FORM's CARD OF 'laws.FnHops'. -/
def fnHopsUptoCard : Claim7 := { stood := { row := fnHopsUptoRow, standIns := [], harness := (true, "160a7018341a68ce38edb4b8f0676252844933bebfc7a6aa621c4fca1e8fc77d"), looks := false }, kinds := [], alts := [], laidByText := true, laidKinds := [.data, .pinned], laidTests := true, laidLooks := .later }
def FnHopsUptoCardSaid : Prop := Claim7.holds Tryd.pinned (.plain (OpenSpec.upto fnHopsSpec)) fnHopsUptoCard
end Rows
end Go.Proofs.YtpeefjfklklhdaaDoor
