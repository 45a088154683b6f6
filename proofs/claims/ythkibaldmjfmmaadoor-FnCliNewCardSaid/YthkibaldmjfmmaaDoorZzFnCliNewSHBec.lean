/- Of a text of ours what this claim needs. -/
import Derived.Test.YthkibaldmjfmmaaDoorZzFnCliNewSQ0
import Derived.Test.YthkibaldmjfmmaaDoorZzFnCliNewSQ22
import Derived.Test.YthkibaldmjfmmaaDoorZzFnCliNewSWApart
import Derived.Test.YthkibaldmjfmmaaDoorZzFnCliNewSWWords
import Derived.WalkKit
import Derived.Deep.LoopGhost
namespace Go.Proofs.YthkibaldmjfmmaaDoor.Q
open Go.RowKit Go.Proofs.YthkibaldmjfmmaaDoorW.PrintWords Go.Proofs.YthkibaldmjfmmaaDoorW.PrintLast Go.Proofs.YthkibaldmjfmmaaDoorW.PrintMore
set_option linter.unusedVariables false
set_option linter.unusedSimpArgs false
def outTo (z : Int) : Int := if z = 0 ∨ z = 1 then 3 else z
def mixL (l : List Int) (j : Nat) : List Int := (l.take j).map outTo ++ l.drop j
theorem mixL_len (l : List Int) (j : Nat) : (mixL l j).length = l.length := by
  unfold mixL
  rw [List.length_append, List.length_map, List.length_take, List.length_drop]
  omega
theorem mixL_end (l : List Int) : mixL l l.length = l.map outTo := by
  unfold mixL
  rw [List.take_length, List.drop_length, List.append_nil]
theorem mixL_at (l : List Int) (j : Nat) (h : j < l.length) : (mixL l j)[j]'(by rw [mixL_len]; exact h) = l[j] := by
  unfold mixL
  rw [List.getElem_append_right (by rw [List.length_map, List.length_take]; omega)]
  simp only [List.length_map, List.length_take, List.getElem_drop]
  congr 1
  omega
theorem mixL_rd (l : List Int) (j : Nat) (h : j < l.length) : rdOf (0 : Int) (mixL l j) (j : Int) = l[j] := by
  unfold rdOf
  rw [Int.toNat_natCast, List.getD_eq_getElem?_getD, List.getElem?_eq_getElem (by rw [mixL_len]; exact h), mixL_at l j h]
  rfl
theorem mixL_set (l : List Int) (j : Nat) (h : j < l.length) : (mixL l j).set j (outTo l[j]) = mixL l (j + 1) := by
  unfold mixL
  have e1 : ((l.take j).map outTo).length = j := by rw [List.length_map, List.length_take]; omega
  rw [List.set_append, if_neg (by omega), e1, Nat.sub_self, List.drop_eq_getElem_cons h, List.set_cons_zero, List.take_succ_eq_append_getElem h, List.map_append, List.append_assoc]
  rfl
theorem mixL_same (l : List Int) (j : Nat) (h : j < l.length) (hz : outTo l[j] = l[j]) : mixL l (j + 1) = mixL l j := by
  rw [← mixL_set l j h, hz]
  have := mixL_at l j h
  rw [← this]
  exact List.set_getElem_self _
theorem has_f (z : Int) : slices_Contains_int_int.f 4 [0, 1] z = some (decide (z = 0 ∨ z = 1)) := by
  unfold slices_Contains_int_int.f slices_Index_int_int.f
  have w1 : wrap64 1 = 1 := by unfold wrap64; omega
  have w2 : wrap64 2 = 2 := by unfold wrap64; omega
  by_cases h0 : z = 0
  · subst h0
    simp [slices_Index_int_int.l0, rd, rdOf, w1, w2]
  · by_cases h1 : z = 1
    · subst h1
      simp [slices_Index_int_int.l0, rd, rdOf, w1, w2]
    · simp [slices_Index_int_int.l0, rd, rdOf, w1, w2, h0, h1]
theorem bec_w {j : Nat} (h : j ≤ 1099511627776) : wrap64 ((j : Int) + 1) = ((j + 1 : Nat) : Int) := by unfold wrap64; omega
theorem bec_m {n j : Nat} (h : j < n) : n - (j + 1) < n - j := by omega
theorem from_C {w : World} {b : Nat} (h : w.heap[b]? = some (.cells #[.int .i64 0, .int .i64 1] 3 (0, 0))) : Kd.C (Kd.int .i64) w (some ⟨b, 0, none⟩) 2 [0, 1] := by
  refine ⟨rfl, by decide, fun _ => ⟨_, rfl, fun j p hp => ?_⟩⟩
  have hj : j < 2 := (List.getElem?_eq_some_iff.1 hp).1
  have hb := zq1 h j
  refine ⟨[.int .i64 p], rfl, rfl, fun i u hu => ?_⟩
  have hi : i < 1 := (List.getElem?_eq_some_iff.1 hu).1
  have hi0 : i = 0 := by omega
  subst hi0
  simp only [List.getElem?_cons_zero, Option.some.injEq] at hu
  subst hu
  rcases (show j = 0 ∨ j = 1 by omega) with rfl | rfl
  · simp only [List.getElem?_cons_zero, Option.some.injEq] at hp
    subst hp
    exact hb
  · simp only [List.getElem?_cons_succ, List.getElem?_cons_zero, Option.some.injEq] at hp
    subst hp
    exact hb
abbrev cliCs (a0 a1 a2 : ByteArray) (v3 v4 : Value) (a5 a6 : Int) (v7 : Value) : Array Value := #[.string a0, .string a1, .string a2, v3, v4, .int .i64 a5, .int .i64 a6, v7]
set_option maxHeartbeats 4000000 in
set_option maxRecDepth 100000 in
theorem become_calls (g b : Nat) (a0 a1 a2 : ByteArray) (v3 v4 : Value) (a5 a6 : Int) (Ao : Option Addr) (c : Nat) (l : List Int) (w0 w : World)
    (hBK : w.heap[g]? = some (.cells (cliCs a0 a1 a2 v3 v4 a5 a6 (.slice Ao l.length c)) 67 (0, 0))) (hBF : w.heap[b]? = some (.cells #[.int .i64 0, .int .i64 1] 3 (0, 0)))
    (hO : Kd.R (Kd.int .i64) 3 w w0.heap.size (fun k => k ≠ g ∧ k ≠ b) (.slice Ao l.length c) l) (hl : l.length ≤ 1099511627776) (hB : Below w0.heap.size w0 w) :
    Calls Tryd.prog 87 #[.pointer (some ⟨g, 0, none⟩), .int .i64 3, .slice (some ⟨b, 0, none⟩) 2 2] w fun e w' => e = .returned (.tuple #[]) ∧ Kd.R (Kd.int .i64) 3 w' w0.heap.size (fun k => k ≠ g ∧ k ≠ b) (.slice Ao l.length c) (l.map outTo) ∧ w'.heap[g]? = some (.cells (cliCs a0 a1 a2 v3 v4 a5 a6 (.slice Ao l.length c)) 67 (0, 0)) ∧ Below w0.heap.size w0 w' := by
  have hu67 := Tryd.underlying67
  have HO0 := Aside0.mk hO
  have BK0 := Aside0.mk hBK
  have BF0 := Aside0.mk hBF
  have HB0 := Aside0.mk hB
  have HL := Aside0.mk hl
  have hc7 : w.cell? ⟨g, 7, none⟩ = some (.slice Ao l.length c) := (zq1 hBK 7).trans rfl
  clear hO hBK hBF hB hl
  go_enter Tryd.func87, Tryd.ntmps87
  go_wp2
  clear hc7
  go_loopw [13] (fun i wr => ∃ j : Nat, j ≤ l.length ∧ i = .int .i64 (j : Int) ∧ Aside0 (Kd.R (Kd.int .i64) 3 wr w0.heap.size (fun k => k ≠ g ∧ k ≠ b) (.slice Ao l.length c) (mixL l j)) ∧ Aside0 (wr.heap[g]? = some (.cells (cliCs a0 a1 a2 v3 v4 a5 a6 (.slice Ao l.length c)) 67 (0, 0))) ∧ Aside0 (wr.heap[b]? = some (.cells #[.int .i64 0, .int .i64 1] 3 (0, 0))) ∧ Aside0 (Below w0.heap.size w0 wr)) (fun i _ => l.length - (intOf i).toNat)
  case atStart => exact ⟨0, Nat.zero_le _, rfl, HO0, BK0, BF0, HB0⟩
  case round =>
    obtain ⟨j, hj, rfl, HO, BK, BF, HB⟩ := hrel
    by_cases hlt : j < l.length
    · have c1 : decide ((j : Int) < (l.length : Int)) = true := decide_eq_true (by omega)
      have hpos : 0 < (mixL l j).length := by rw [mixL_len]; omega
      obtain ⟨go9, co9, eo9, gb9, gl9, cl9, HG9⟩ := Kd.R_form HO.out hpos
      rw [mixL_len] at eo9
      (first | cases eo9 | (injection eo9 with ea_ en_ ec_; (first | subst ea_ | (injection ea_ with ea_; subst ea_)); subst ec_; clear en_))
      obtain ⟨hx9, hf9⟩ := Kd.R_celln 0 HO.out (j : Int) (by omega) (by omega)
      rw [mixL_rd l j hlt, Int.toNat_natCast] at hx9
      rw [Int.toNat_natCast] at hf9
      have hg9 : go9 ≠ g ∧ go9 ≠ b := HO.out.1 go9 (by simp [Value.ownBlock])
      have hw : wrap64 ((j : Int) + 1) = ((j + 1 : Nat) : Int) := bec_w (Nat.le_trans hj HL.out)
      by_cases hz : l[j] = 0 ∨ l[j] = 1
      · have hz1 : decide (l[j] = 0 ∨ l[j] = 1) = true := decide_eq_true hz
        have hcf := has_f l[j]
        rw [hz1] at hcf
        have ho : outTo l[j] = 3 := if_pos hz
        go_wp2_with (go_at_call 123; refine (slices_Contains_int_int.calls 4 (some ⟨b, 0, none⟩) 2 [0, 1] l[j] true _ (from_C BF.out) (Nat.le_refl _) hcf).mono ?_; rintro e w2 ⟨rfl, hd⟩; have HBd : Below wr.heap.size wr w2 := (by obtain ⟨nd, hnd⟩ := hd; rw [hnd]; exact zq0 (Below.refl _ _) nd); have HO2 := Aside0.mk (Kd.z5 HO.out HBd); have BK2 := Aside0.mk (zq13 BK.out HBd); have BF2 := Aside0.mk (zq13 BF.out HBd); have HB2 := Aside0.mk (zq11 HB.out HBd); clear hd HBd hx9 hf9 HO BK BF HB; obtain ⟨hx2, hf2⟩ := Kd.R_celln 0 HO2.out (j : Int) (by omega) (by omega); rw [Int.toNat_natCast] at hx2 hf2; have hc2 : w2.cell? ⟨g, 7, none⟩ = some (.slice (some ⟨go9, 0, none⟩) l.length c) := (zq1 BK2.out 7).trans rfl)
        have HP := Kd.R_putg HO2.out (j : Int) 3
        rw [Int.toNat_natCast] at HP
        go_roundw
        case rel => exact ⟨j + 1, hlt, by rw [hw], ⟨by rw [← mixL_set l j hlt, ho]; exact HP.1⟩, ⟨zq24 BK2.out hg9.1.symm _⟩, ⟨zq24 BF2.out hg9.2.symm _⟩, ⟨zq2 HB2.out gb9⟩⟩
        case measure => rw [hw]; exact bec_m hlt
      · have hz1 : decide (l[j] = 0 ∨ l[j] = 1) = false := decide_eq_false hz
        have hcf := has_f l[j]
        rw [hz1] at hcf
        have ho : outTo l[j] = l[j] := if_neg hz
        go_wp2_with (go_at_call 123; refine (slices_Contains_int_int.calls 4 (some ⟨b, 0, none⟩) 2 [0, 1] l[j] false _ (from_C BF.out) (Nat.le_refl _) hcf).mono ?_; rintro e w2 ⟨rfl, hd⟩; have HBd : Below wr.heap.size wr w2 := (by obtain ⟨nd, hnd⟩ := hd; rw [hnd]; exact zq0 (Below.refl _ _) nd); have HO2 := Aside0.mk (Kd.z5 HO.out HBd); have BK2 := Aside0.mk (zq13 BK.out HBd); have BF2 := Aside0.mk (zq13 BF.out HBd); have HB2 := Aside0.mk (zq11 HB.out HBd); clear hd HBd hx9 hf9 HO BK BF HB; obtain ⟨hx2, hf2⟩ := Kd.R_celln 0 HO2.out (j : Int) (by omega) (by omega); rw [Int.toNat_natCast] at hx2 hf2; have hc2 : w2.cell? ⟨g, 7, none⟩ = some (.slice (some ⟨go9, 0, none⟩) l.length c) := (zq1 BK2.out 7).trans rfl)
        go_roundw
        case rel => exact ⟨j + 1, by omega, by rw [hw], ⟨by rw [mixL_same l j hlt ho]; exact HO2.out⟩, BK2, BF2, HB2⟩
        case measure => rw [hw]; exact bec_m hlt
    · have c1 : decide ((j : Int) < (l.length : Int)) = false := decide_eq_false (by omega)
      have hjl : j = l.length := by omega
      subst hjl
      go_wp2
      go_end0
      exact ⟨rfl, by rw [← mixL_end]; exact HO.out, BK.out, HB.out⟩
end Go.Proofs.YthkibaldmjfmmaaDoor.Q
