/- Plain laws: sizes of an address. -/
import Derived.Test.YtpeefjfklklhdaaDoorPBase
import Derived.Test.YtpeefjfklklhdaaDoorQ7
import Derived.Test.YtpeefjfklklhdaaDoorQ11
namespace Go.Proofs.YtpeefjfklklhdaaDoor.Q
open Go.RowKit Go.Proofs.YtpeefjfklklhdaaDoorW.PrintWords Go.Proofs.YtpeefjfklklhdaaDoorW.PrintLast Go.Proofs.YtpeefjfklklhdaaDoorW.PrintMore
theorem szAddr_f (x y : ByteArray) (hx : x.size ≤ 9223372036854775807) (hy : y.size ≤ 9223372036854775807) (a : Int) (h0 : 0 ≤ a) (h1 : a ≤ 1048576) :
    ∃ r, laws_szAddr.f x y a = some r ∧ r ≤ a ∧ (0 ≤ r → (x.size : Int) ≤ a ∧ (y.size : Int) ≤ a) := by
  unfold laws_szAddr.f
  have hw : wrap64 (a - (x.size : Int)) = a - (x.size : Int) := w64 (by omega) (by omega)
  rw [hw]
  by_cases h : a - (x.size : Int) < 0
  · exact ⟨-1, if_pos h, by omega, by omega⟩
  · have hw2 : wrap64 (a - (x.size : Int) - (y.size : Int)) = a - (x.size : Int) - (y.size : Int) := w64 (by omega) (by omega)
    rw [if_neg h, hw2]
    by_cases h2 : a - (x.size : Int) - (y.size : Int) < 0
    · exact ⟨-1, if_pos h2, by omega, by omega⟩
    · exact ⟨_, if_neg h2, by omega, by omega⟩
theorem eqAddr_refl (x y : ByteArray) : laws_eqAddr.f x y x y = some true := by
  unfold laws_eqAddr.f
  rw [if_pos rfl, if_pos rfl]
end Go.Proofs.YtpeefjfklklhdaaDoor.Q
