/- Of a text of ours what this claim needs. -/
import Derived.Test.YtpeefjfklklhdaaDoorZzFnDomainPDrawA
import Derived.Test.YtpeefjfklklhdaaDoorZzFnDomainQ0
import Derived.Test.YtpeefjfklklhdaaDoorZzFnDomainQ2
import Derived.Test.YtpeefjfklklhdaaDoorZzFnDomainQ3
import Derived.Test.YtpeefjfklklhdaaDoorZzFnDomainQ5
import Derived.Test.YtpeefjfklklhdaaDoorZzFnDomainHSplit
import Derived.Test.YtpeefjfklklhdaaDoorZzFnDomainQ4
namespace Go.Proofs.YtpeefjfklklhdaaDoor.Q
open Go.RowKit Go.Proofs.YtpeefjfklklhdaaDoorW.PrintWords Go.Proofs.YtpeefjfklklhdaaDoorW.PrintLast Go.Proofs.YtpeefjfklklhdaaDoorW.PrintMore
set_option linter.unusedVariables false
theorem sizes_of {l : List ByteArray} {n : Nat} (h : l.all (fun s => decide (s.size ≤ n)) = true) : ∀ s ∈ l, s.size ≤ n := fun s hs => by
  rw [List.all_eq_true] at h
  exact of_decide_eq_true (h s hs)
end Go.Proofs.YtpeefjfklklhdaaDoor.Q
