/- Of a text of ours what this claim needs. -/
import Derived.Test.YtjdpdkdhfnpcgaaGreatDoorZzFnExactNoteGetSQ0
import Derived.Test.YtjdpdkdhfnpcgaaGreatDoorZzFnExactNoteGetSAu
namespace Go.Proofs.YtjdpdkdhfnpcgaaGreatDoor.Q
open Go.RowKit Go.Proofs.YtjdpdkdhfnpcgaaGreatDoorW.PrintWords Go.Proofs.YtjdpdkdhfnpcgaaGreatDoorW.PrintLast Go.Proofs.YtjdpdkdhfnpcgaaGreatDoorW.PrintMore
attribute [local go_sem] max2_int min2_int max_two min_two max_three min_three max_four min_four
set_option linter.unusedVariables false
set_option linter.unusedSimpArgs false
theorem eqA24 (d:Nat) (w:World) (x0 y0:ByteArray) (x1 y1:ByteArray) :
 (Op.equalIn (d+2) 24 (.agg #[.string x0,.string x1]) (.agg #[.string y0,.string y1])).run Tryz.prog w=.ok (x0.toList==y0.toList && (x1.toList==y1.toList)) w:=by
 refine eqA_of Tryz.underlying24 zY2 ?_
 refine eqf_cons zY30 (by go_simp;rfl) (by go_simp;rfl) (by go_simp) ?_
 exact eqf_last zY30 (by go_simp;rfl) (by go_simp;rfl) (by go_simp)
end Go.Proofs.YtjdpdkdhfnpcgaaGreatDoor.Q
