/- Plain laws: prefixes; a mail's mark. -/
import Derived.Test.YtbabdndgaafoaaaPTexts
import Derived.Test.YtbabdndgaafoaaaQ3
import Derived.Test.YtbabdndgaafoaaaQ2
namespace Go.Proofs.Ytbabdndgaafoaaa.Q
open Go.RowKit Go.Proofs.YtbabdndgaafoaaaW.PrintWords Go.Proofs.YtbabdndgaafoaaaW.PrintLast Go.Proofs.YtbabdndgaafoaaaW.PrintMore
set_option linter.unusedVariables false
set_option linter.unusedSimpArgs false

theorem litePrefix_f (a b : ByteArray) : stringslite_HasPrefix.f a b = some (Lib.hasPrefix (LL a) (LL b)) := by
  unfold stringslite_HasPrefix.f
  rw [← Lib.hasPrefix_of_take]
  by_cases h : (a.size : Int) ≥ (b.size : Int)
  · rw [if_pos h, if_pos (by omega), if_pos (by omega), Int.toNat_natCast, toList_LL, toList_LL, LL_extract]
    have : decide ((LL b).length ≤ (LL a).length) = true := by rw [← size_LL, ← size_LL]; simp; omega
    rw [this, Bool.true_and, List.drop_zero, Nat.sub_zero, size_LL]
  · rw [if_neg h]
    have : decide ((LL b).length ≤ (LL a).length) = false := by rw [← size_LL, ← size_LL]; simp; omega
    rw [this]
    rfl
theorem hasPrefix_f (a b : ByteArray) : strings_HasPrefix.f a b = some (Lib.hasPrefix (LL a) (LL b)) := by
  unfold strings_HasPrefix.f
  rw [litePrefix_f]
  rfl

def ID4 : List UInt8 := [73, 100, 58, 32]
def isMk (s : ByteArray) : Bool := decide (4 < s.size) && ((LL s).take 4 == ID4)
def markL (ls : List ByteArray) : ByteArray := (ls.find? isMk).getD ⟨#[]⟩
def markOf (ls : List ByteArray) : ByteArray := if bodyOk ls = true then markL ls else ⟨#[]⟩

theorem l7Mark_loop (l : List ByteArray) (hm : l.length ≤ 9223372036854775807) : ∀ d i : Nat, i + d = l.length → Ev (fun k => spec_l7Mark.l0 k l (i : Int)) (markL (l.drop i)) := by
  intro d
  induction d with
  | zero =>
    intro i hi
    refine Ev.step (fun k => by rw [spec_l7Mark.l0]) ?_
    refine Ev.neg (by omega) (Ev.k ?_)
    rw [List.drop_of_length_le (by omega)]
    rfl
  | succ d ih =>
    intro i hi
    have nxt := ih (i + 1) (by omega)
    rw [drop_rd l i (by omega)]
    refine Ev.step (fun k => by rw [spec_l7Mark.l0]) ?_
    generalize hs : rdOf ByteArray.empty l (i : Int) = s
    refine Ev.pos (by omega) ?_
    refine Ev.pos (by omega) ?_
    rw [wsucc (by omega)]
    by_cases h1 : (s.size : Int) > 4
    · refine Ev.pos h1 ?_
      refine Ev.pos (by omega) ?_
      refine Ev.pos (by omega) ?_
      by_cases h2 : (s.extract 0 4).toList = [73, 100, 58, 32]
      · refine Ev.pos h2 (Ev.k ?_)
        rw [toList_LL, LL_extract, List.drop_zero] at h2
        have : isMk s = true := by
          unfold isMk ID4
          rw [h2]
          simp
          omega
        unfold markL
        rw [List.find?_cons_of_pos this]
        rfl
      · refine Ev.neg h2 ?_
        rw [toList_LL, LL_extract, List.drop_zero] at h2
        have : ¬ isMk s = true := by
          unfold isMk ID4
          simp
          intro _ h3
          exact h2 h3
        unfold markL
        rw [List.find?_cons_of_neg this]
        exact nxt
    · refine Ev.neg h1 ?_
      have : ¬ isMk s = true := by
        unfold isMk
        simp
        omega
      unfold markL
      rw [List.find?_cons_of_neg this]
      exact nxt
theorem mark_loop (l : List ByteArray) (hm : l.length ≤ 9223372036854775807) : ∀ d i : Nat, i + d = l.length → Ev (fun k => impl_mark.l0 k l (l.length : Int) (i : Int)) (markL (l.drop i)) := by
  intro d
  induction d with
  | zero =>
    intro i hi
    refine Ev.step (fun k => by rw [impl_mark.l0]) ?_
    refine Ev.neg (by omega) (Ev.k ?_)
    rw [List.drop_of_length_le (by omega)]
    rfl
  | succ d ih =>
    intro i hi
    have nxt := ih (i + 1) (by omega)
    rw [drop_rd l i (by omega)]
    refine Ev.step (fun k => by rw [impl_mark.l0]) ?_
    generalize hs : rdOf ByteArray.empty l (i : Int) = s
    refine Ev.pos (by omega) ?_
    refine Ev.pos (by omega) ?_
    refine Ev.pos (by omega) ?_
    rw [wsucc (by omega)]
    refine Ev.bnd (Ev.k (hasPrefix_f _ _)) ?_
    by_cases h1 : Lib.hasPrefix (LL s) ID4 = true
    · refine Ev.pos h1 ?_
      have h1' := h1
      rw [← Lib.hasPrefix_of_take] at h1'
      simp only [Bool.and_eq_true, decide_eq_true_eq, beq_iff_eq] at h1'
      rw [show ID4.length = 4 from rfl, ← size_LL] at h1'
      by_cases h2 : s.toList = [73, 100, 58, 32]
      · refine Ev.pos h2 ?_
        rw [toList_LL] at h2
        have : ¬ isMk s = true := by
          unfold isMk
          simp
          intro h3
          rw [size_LL, h2] at h3
          exact absurd h3 (by decide)
        unfold markL
        rw [List.find?_cons_of_neg this]
        exact nxt
      · refine Ev.neg h2 (Ev.k ?_)
        have : isMk s = true := by
          unfold isMk
          rw [h1'.2]
          simp
          rcases Nat.lt_or_ge 4 s.size with h3 | h3
          · exact h3
          · exfalso
            have h4 : s.size = 4 := by omega
            have h5 := h1'.2
            rw [List.take_of_length_le (by rw [← size_LL]; omega)] at h5
            exact h2 (by rw [toList_LL]; exact h5)
        unfold markL
        rw [List.find?_cons_of_pos this]
        rfl
    · refine Ev.neg h1 ?_
      have : ¬ isMk s = true := by
        intro h2
        apply h1
        rw [← Lib.hasPrefix_of_take]
        unfold isMk at h2
        simp only [Bool.and_eq_true, decide_eq_true_eq, beq_iff_eq] at h2 ⊢
        exact ⟨by rw [← size_LL]; show 4 ≤ _; omega, h2.2⟩
      unfold markL
      rw [List.find?_cons_of_neg this]
      exact nxt
theorem specMarkOf_ev (l : List ByteArray) (hm : l.length ≤ 9223372036854775807) (hs : ∀ s ∈ l, s.size ≤ 9223372036854775807) : Ev (fun k => spec_MarkOf.f k l) (markOf l) := by
  unfold spec_MarkOf.f markOf
  refine Ev.bnd (l2BodyOk_ev l hm hs) ?_
  by_cases h : bodyOk l = true
  · rw [if_pos h]
    refine Ev.pos h ?_
    refine Ev.bnd (a := markL l) (by unfold spec_l7Mark.f; exact l7Mark_loop l hm l.length 0 (by omega)) (Ev.ret _)
  · rw [if_neg h]
    exact Ev.neg h (Ev.ret _)
theorem implMarkOf_ev (l : List ByteArray) (hm : l.length ≤ 9223372036854775807) (hs : ∀ s ∈ l, s.size ≤ 9223372036854775807) : Ev (fun k => impl_MarkOf.f k l) (markOf l) := by
  unfold impl_MarkOf.f markOf
  refine Ev.bnd (isBody_ev l hm hs) ?_
  by_cases h : bodyOk l = true
  · rw [if_pos h]
    refine Ev.pos h ?_
    refine Ev.bnd (a := markL l) (by unfold impl_mark.f; exact mark_loop l hm l.length 0 (by omega)) (Ev.ret _)
  · rw [if_neg h]
    exact Ev.neg h (Ev.ret _)

end Go.Proofs.Ytbabdndgaafoaaa.Q
