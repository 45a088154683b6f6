/- Of a text of ours what this claim needs. -/
import Derived.Test.YtjdpdkdhfnpcgaaGreatDoorRows
import Derived.Test.YtjdpdkdhfnpcgaaGreatDoorZzFnExactNoteGetSHSplit
import Derived.Lib.LaidTab
import Derived.Stop.LaidErr
import Derived.Shelf.Vars
import Derived.HandedShaped
import Derived.WideShapes
namespace Go.Proofs.YtjdpdkdhfnpcgaaGreatDoor.Q
open Go.RowKit Go.Proofs.YtjdpdkdhfnpcgaaGreatDoorW.PrintWords Go.Proofs.YtjdpdkdhfnpcgaaGreatDoorW.PrintLast Go.Proofs.YtjdpdkdhfnpcgaaGreatDoorW.PrintMore
open Go.ChangeShapes Go.WideShapes
theorem maxLen_laid {W : World} (h : W.ShapedOpen Tryz.prog) : ∃ m, W.cell? ⟨0, 0, none⟩ = some (.int .i64 m) :=
  Go.Proofs.cell_of_shapedOpen_int h (of_decide_eq_true (by kernel_rfl)) (t := 3) (zero := #[.int .i64 0]) (by kernel_rfl) rfl (by kernel_rfl) (by kernel_rfl) Tryz.underlying3
theorem gok_laid {W : World} {a b : String × DataW Unit} {rest : List (String × DataW Unit)} (h : W.ShapedOpen Tryz.prog)
    (hL : laidMet Tryz.prog (a :: b :: ("internal/strconv.uint64pow10", Rows.laid_internal_strconv_uint64pow10) :: rest) W) : GOK W :=
  ⟨maxLen_laid h, Lib.tabIs_of_head (g := 1) (t := 172) (e := 146) (n := 20) (by kernel_rfl) (by kernel_rfl) Tryz.underlying172 Tryz.underlying146 (by kernel_rfl) (by kernel_rfl) (laidMet.tail (laidMet.tail hL))⟩
theorem star_ : "*" ++ "errors.errorString" = "*errors.errorString" := by decide
theorem row_err (u : TypeId) (h : Tryz.prog.typeName? 3 u = some "*errors.errorString") : u = 191 :=
  typeName_ptr_named (nm := "errors.errorString") (by rw [star_]; kernel_rfl) (by kernel_rfl) (by decide) u (by rw [star_]; exact h)
theorem goke_laid {W : World} {a b c : String × DataW Unit} {rest : List (String × DataW Unit)} (h : W.ShapedOpen Tryz.prog)
    (hL : laidMet Tryz.prog (a :: b :: ("internal/strconv.uint64pow10", Rows.laid_internal_strconv_uint64pow10) :: c :: ("strconv.ErrRange", Rows.laid_strconv_ErrRange) :: ("strconv.ErrSyntax", Rows.laid_strconv_ErrSyntax) :: rest) W) : GOKE W := by
  have h4 := laidMet.tail (laidMet.tail (laidMet.tail (laidMet.tail hL)))
  have g2 : Tryz.prog.globalNamed "strconv.ErrSyntax" = some 2 := by kernel_rfl
  have g3 : Tryz.prog.globalNamed "strconv.ErrRange" = some 3 := by kernel_rfl
  obtain ⟨a3, s3, hv3, -, -, -⟩ := laid_sentinel (g := 3) (ti := 90) (tp := 191) (te := 193) (ts := 9) h4 g3 (by kernel_rfl) Tryz.underlying90 row_err Tryz.underlying191 Tryz.underlying193 rfl rfl Tryz.underlying9 (by kernel_rfl) (by kernel_rfl)
  obtain ⟨a2, s2, hv2, -, -, -⟩ := laid_sentinel (g := 2) (ti := 90) (tp := 191) (te := 193) (ts := 9) (laidMet.tail h4) g2 (by kernel_rfl) Tryz.underlying90 row_err Tryz.underlying191 Tryz.underlying193 rfl rfl Tryz.underlying9 (by kernel_rfl) (by kernel_rfl)
  exact ⟨gok_laid h hL, ⟨_, _, by have h0 := World.var?_cell g2 hv2 0; simpa using h0⟩, ⟨_, _, by have h0 := World.var?_cell g3 hv3 0; simpa using h0⟩⟩
end Go.Proofs.YtjdpdkdhfnpcgaaGreatDoor.Q
