/- Of a text of ours what this claim needs. -/
import Derived.Test.YthkibaldmjfmmaaDoorZzFnExactWayOfPBase
import Derived.Test.YthkibaldmjfmmaaDoorZzFnExactWayOfQ12
import Derived.Test.YthkibaldmjfmmaaDoorZzFnExactWayOfQ0
import Derived.Test.YthkibaldmjfmmaaDoorZzFnExactWayOfQ8
import Derived.Test.YthkibaldmjfmmaaDoorZzFnExactWayOfHSplit
namespace Go.Proofs.YthkibaldmjfmmaaDoor.Q
open Go.RowKit Go.Proofs.YthkibaldmjfmmaaDoorW.PrintWords Go.Proofs.YthkibaldmjfmmaaDoorW.PrintLast Go.Proofs.YthkibaldmjfmmaaDoorW.PrintMore
set_option linter.unusedVariables false
set_option linter.unusedSimpArgs false
theorem eqStringS_loop (a b : List ByteArray) (hl : a.length = b.length) (hm : a.length ≤ 4611686018427387904) : ∀ d i : Nat, i + d = a.length → Ev (fun k => laws_eqStringS.l0 k a b (i : Int)) (decide (a.drop i = b.drop i)) := by
  intro d
  induction d with
  | zero =>
    intro i hi
    refine Ev.step (fun k => by rw [laws_eqStringS.l0]) ?_
    refine Ev.neg (by omega) (Ev.k ?_)
    rw [List.drop_of_length_le (by omega), List.drop_of_length_le (by omega)]
    rfl
  | succ d ih =>
    intro i hi
    refine Ev.step (fun k => by rw [laws_eqStringS.l0]) ?_
    refine Ev.pos (by omega) (Ev.pos (by omega) (Ev.pos (by omega) ?_))
    rw [drop_rd a i (by omega), drop_rd b i (by omega)]
    by_cases h : rdOf ByteArray.empty a (i : Int) = rdOf ByteArray.empty b (i : Int)
    · refine Ev.pos (toList_eq.2 h) ?_
      rw [wsucc (by omega), h]
      exact Ev.eq (ih (i + 1) (by omega)) (by simp)
    · refine Ev.neg (fun e => h (toList_eq.1 e)) (Ev.k ?_)
      simp [h]
theorem eqStringS_ev (a b : List ByteArray) (hm : a.length ≤ 4611686018427387904) : Ev (fun k => laws_eqStringS.f k a b) (decide (a = b)) := by
  unfold laws_eqStringS.f
  by_cases h : a.length = b.length
  · refine Ev.pos (by omega) ?_
    exact Ev.eq (eqStringS_loop a b h hm a.length 0 (by omega)) (by simp)
  · refine Ev.neg (by omega) (Ev.k ?_)
    have : a ≠ b := fun e => h (by rw [e])
    simp [this]
end Go.Proofs.YthkibaldmjfmmaaDoor.Q
