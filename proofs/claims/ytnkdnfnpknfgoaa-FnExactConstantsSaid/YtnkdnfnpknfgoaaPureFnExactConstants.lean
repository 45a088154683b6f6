/- What is proved: FnExactConstants holds of the given program: the call returns true. No condition. -/
import Derived.Test.YtnkdnfnpknfgoaaPFnExactConstantsx1
namespace Go.Proofs.Ytnkdnfnpknfgoaa.Pure
open Go.RowKit Go.Proofs.Ytnkdnfnpknfgoaa.PFnExactConstants Go.Proofs.YtnkdnfnpknfgoaaW.PrintWords Go.Proofs.YtnkdnfnpknfgoaaW.PrintLast

theorem FnExactConstants : laws_FnExactConstants.Pure := rfl

end Go.Proofs.Ytnkdnfnpknfgoaa.Pure
