/- Of a text of ours what this claim needs. -/
import Derived.Test.YtjdpdkdhfnpcgaaGreatDoorZzFnExactNoteGetSHSplit
import Derived.Lib.AppendIntMem
import Derived.Lib.AtoiAllCases
import Derived.WalkKit
namespace Go.Proofs.YtjdpdkdhfnpcgaaGreatDoor.Q
open Go.RowKit Go.Proofs.YtjdpdkdhfnpcgaaGreatDoorW.PrintWords Go.Proofs.YtjdpdkdhfnpcgaaGreatDoorW.PrintLast Go.Proofs.YtjdpdkdhfnpcgaaGreatDoorW.PrintMore
set_option linter.unusedVariables false
set_option linter.unusedSimpArgs false
def strconv_Itoa.f (a0 : Int) : Option ByteArray := if -9223372036854775808 ≤ a0 ∧ a0 ≤ 9223372036854775807 then some ⟨(Lib.itoa a0).toArray⟩ else none
theorem strconv_Itoa.calls (a0 : Int) (r : ByteArray) (w : World) (hG : GOK w) (h : strconv_Itoa.f a0 = some r) :
    Calls Tryz.prog 22 #[.int .i64 a0] w fun e w' => e = .returned (.string r) ∧ Below w.heap.size w w' := by
  unfold strconv_Itoa.f at h
  by_cases c : -9223372036854775808 ≤ a0 ∧ a0 ≤ 9223372036854775807
  · rw [if_pos c] at h
    obtain rfl := Option.some.inj h
    refine (Tryz.strconv_Itoa a0 c.1 c.2 w hG.2).mono ?_
    rintro e w' ⟨rfl, k, os, rfl⟩
    exact ⟨rfl, Lib.below_grow _ w (Nat.le_refl _) k os⟩
  · rw [if_neg c] at h
    cases h
def impl_decimal.f (a0 : ByteArray) : Option (Int × Bool) :=
  if a0.size ≤ 281474976710656 then
    (match Lib.atoiAll a0.data.toList with
    | .ok v => some (v, decide (0 ≤ v) && ((⟨(Lib.itoa v).toArray⟩ : ByteArray).toList == a0.toList))
    | .range => some (Lib.atoiSat a0.data.toList, false)
    | _ => some (0, false))
  else none
theorem num_below {w w1 : World} (h : w1 = w ∨ ∃ t, w1 = Lib.bytesWorld w 5 t) : Below w.heap.size w w1 := by
  rcases h with rfl | ⟨t, rfl⟩
  · exact Below.refl _ _
  · exact Lib.bytesWorld_below _ _ _
set_option maxHeartbeats 4000000 in
set_option maxRecDepth 100000 in
theorem impl_decimal.calls (a0 : ByteArray) (r1 : Int) (r2 : Bool) (w : World) (hG : GOKE w) (h : impl_decimal.f a0 = some (r1, r2)) :
    Calls Tryz.prog 34 #[.string a0] w fun e w' => e = .returned (.tuple #[.int .i64 r1, .bool r2]) ∧ Below w.heap.size w w' := by
  unfold impl_decimal.f at h
  by_cases hs : a0.size ≤ 281474976710656
  · rw [if_pos hs] at h
    have HG := Aside0.mk hG
    clear hG
    cases ha : Lib.atoiAll a0.data.toList
    case ok v =>
      rw [ha] at h
      simp only [Option.some.injEq, Prod.mk.injEq] at h
      obtain ⟨rfl, hr⟩ := h
      obtain ⟨vb0, vb1⟩ := Lib.atoiAll_bounds ha
      have hA := Aside0.mk ((Tryz.strconv_Atoi_ok a0 (by omega) v ha w).mono (R' := fun e w' => e = .returned (.tuple #[.int .i64 v, .nilIface]) ∧ Below w.heap.size w w') (fun e w' h => ⟨h.1, num_below h.2⟩))
      clear ha hs
      by_cases hv : 0 ≤ v
      · have hvb : decide (0 ≤ v) = true := decide_eq_true hv
        rw [hvb, Bool.true_and] at hr
        have HR := Aside0.mk hr
        have HB := Aside0.mk (And.intro vb0 vb1)
        clear hr
        go_enter Tryz.func34, Tryz.ntmps34
        go_wp2_with (first
          | (go_at_call 71; refine hA.out.mono ?_; rintro e w1 ⟨rfl, hb1⟩; have HB1 := Aside0.mk hb1; clear hb1)
          | (go_at_call 22; refine (strconv_Itoa.calls v _ _ (HG.out.weak.below HB1.out) (if_pos HB.out)).mono ?_; rintro e w2 ⟨rfl, hb2⟩; have HB2 := Aside0.mk (zq0 HB1.out hb2); clear hb2))
        go_ret2
        exact ⟨by rw [← HR.out, show (⟨(Lib.itoa v).toArray⟩ : ByteArray).toList = Lib.itoa v from Lib.toList_data _]; rfl, HB2.out⟩
      · have hvb : decide (0 ≤ v) = false := decide_eq_false hv
        rw [hvb, Bool.false_and] at hr
        subst hr
        clear hv
        go_enter Tryz.func34, Tryz.ntmps34
        go_wp2_with (first
          | (go_at_call 71; refine hA.out.mono ?_; rintro e w1 ⟨rfl, hb1⟩; have HB1 := Aside0.mk hb1; clear hb1))
        go_ret2
        exact ⟨rfl, HB1.out⟩
    case range =>
      rw [ha] at h
      simp only [Option.some.injEq, Prod.mk.injEq] at h
      obtain ⟨rfl, rfl⟩ := h
      obtain ⟨tp, p, hc⟩ := HG.out.2.2
      have hA := Aside0.mk ((Tryz.strconv_Atoi_range a0 hs ha _ w hc (Or.inr ⟨tp, p, rfl⟩)).mono (R' := fun e w' => ∃ N, e = .returned (.tuple #[.int .i64 (Lib.atoiSat a0.data.toList), .iface 165 (.pointer (some ⟨N, 0, none⟩))]) ∧ Below w.heap.size w w') (fun e w' ⟨N, h1, _, _, h2⟩ => ⟨N, h1, h2⟩))
      clear ha hs hc HG
      generalize Lib.atoiSat a0.data.toList = sat at *
      go_enter Tryz.func34, Tryz.ntmps34
      go_wp2_with (first
        | (go_at_call 71; refine hA.out.mono ?_; rintro e w1 ⟨N, rfl, hb1⟩; have HB1 := Aside0.mk hb1; clear hb1))
      go_ret2
      exact ⟨rfl, HB1.out⟩
    · rw [ha] at h
      simp only [Option.some.injEq, Prod.mk.injEq] at h
      obtain ⟨rfl, rfl⟩ := h
      obtain ⟨tp, p, hc⟩ := HG.out.2.1
      have hA := Aside0.mk ((Tryz.strconv_Atoi_syntax a0 hs (by rw [ha]; exact True.intro) _ w hc (Or.inr ⟨tp, p, rfl⟩)).mono (R' := fun e w' => ∃ N, e = .returned (.tuple #[.int .i64 0, .iface 165 (.pointer (some ⟨N, 0, none⟩))]) ∧ Below w.heap.size w w') (fun e w' ⟨N, h1, _, _, h2⟩ => ⟨N, h1, h2⟩))
      clear ha hs hc HG
      go_enter Tryz.func34, Tryz.ntmps34
      go_wp2_with (first
        | (go_at_call 71; refine hA.out.mono ?_; rintro e w1 ⟨N, rfl, hb1⟩; have HB1 := Aside0.mk hb1; clear hb1))
      go_ret2
      exact ⟨rfl, HB1.out⟩
  · rw [if_neg hs] at h
    cases h
end Go.Proofs.YtjdpdkdhfnpcgaaGreatDoor.Q
