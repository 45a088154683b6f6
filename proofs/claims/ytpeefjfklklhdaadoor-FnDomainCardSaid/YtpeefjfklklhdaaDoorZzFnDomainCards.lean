/- Of a text of ours what this claim needs. -/
import Derived.Test.YtpeefjfklklhdaaDoorRows
import GoSem.ClaimSeven
namespace Go.Proofs.YtpeefjfklklhdaaDoor
namespace Rows
def fnDomainCard : Claim7 := { stood := { row := fnDomainRow, standIns := [], harness := (true, "160a7018341a68ce38edb4b8f0676252844933bebfc7a6aa621c4fca1e8fc77d"), looks := false }, kinds := [], alts := [], laidByText := true, laidKinds := [.data, .pinned], laidTests := true, laidLooks := .later }
def FnDomainCardSaid : Prop := Claim7.holds Tryd.pinned (.plain (OpenSpec.ofChange fnDomainSpec)) fnDomainCard
end Rows
end Go.Proofs.YtpeefjfklklhdaaDoor
