/- Of a text of ours what this claim needs. -/
import Derived.Test.YtjdpdkdhfnpcgaaGreatDoorRows
import Derived.Test.YtjdpdkdhfnpcgaaGreatDoorZzFnExactNotePutWHSplit
import Derived.Lib.LaidTab
import Derived.Stop.LaidErr
import Derived.Shelf.Vars
import Derived.HandedShaped
import Derived.WideShapes
namespace Go.Proofs.YtjdpdkdhfnpcgaaGreatDoor.Q
open Go.RowKit Go.Proofs.YtjdpdkdhfnpcgaaGreatDoorW.PrintWords Go.Proofs.YtjdpdkdhfnpcgaaGreatDoorW.PrintLast Go.Proofs.YtjdpdkdhfnpcgaaGreatDoorW.PrintMore
open Go.ChangeShapes Go.WideShapes
theorem maxLen_laid {W : World} (h : W.ShapedOpen Tryz.prog) : ∃ m, W.cell? ⟨0, 0, none⟩ = some (.int .i64 m) :=
  Go.Proofs.cell_of_shapedOpen_int h (of_decide_eq_true (by kernel_rfl)) (t := 3) (zero := #[.int .i64 0]) (by kernel_rfl) rfl (by kernel_rfl) (by kernel_rfl) Tryz.underlying3
theorem gok_laid {W : World} {a b : String × DataW Unit} {rest : List (String × DataW Unit)} (h : W.ShapedOpen Tryz.prog)
    (hL : laidMet Tryz.prog (a :: b :: ("internal/strconv.uint64pow10", Rows.laid_internal_strconv_uint64pow10) :: rest) W) : GOK W :=
  ⟨maxLen_laid h, Lib.tabIs_of_head (g := 1) (t := 172) (e := 146) (n := 20) (by kernel_rfl) (by kernel_rfl) Tryz.underlying172 Tryz.underlying146 (by kernel_rfl) (by kernel_rfl) (laidMet.tail (laidMet.tail hL))⟩
end Go.Proofs.YtjdpdkdhfnpcgaaGreatDoor.Q
