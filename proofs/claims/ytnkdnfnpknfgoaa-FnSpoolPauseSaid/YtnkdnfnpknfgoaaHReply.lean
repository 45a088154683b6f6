/- impl.ReplyCode, walked by hand: it ranges over the bytes of a text that it converts. -/
import Derived.Test.YtnkdnfnpknfgoaaQ0
import Derived.WalkKit
import Derived.Lib.ConvBytes
import Derived.Lib.Index
import Derived.Lib.IndexMore
import Derived.Lib.Strings
namespace Go.Proofs.Ytnkdnfnpknfgoaa.Q
open Go.RowKit Go.Proofs.YtnkdnfnpknfgoaaW.PrintWords Go.Proofs.YtnkdnfnpknfgoaaW.PrintLast Go.Proofs.YtnkdnfnpknfgoaaW.PrintMore
set_option linter.unusedVariables false
set_option linter.unusedSimpArgs false
def codeAt (a0 : ByteArray) : Nat → Int
  | 0 => 0
  | k + 1 => codeAt a0 k * 10 + (bt a0 (k : Int) - 48)
def figsTo (a0 : ByteArray) (k : Nat) : Prop := ∀ j : Nat, j < k → 48 ≤ bt a0 (j : Int) ∧ bt a0 (j : Int) ≤ 57
def impl_ReplyCode.f (a0 : ByteArray) : Option Int :=
  if (a0.size : Int) < 4 then some 0 else if bt a0 0 < 50 then some 0 else if bt a0 0 > 53 then some 0 else if bt a0 3 = 32 then (if 48 ≤ bt a0 1 ∧ bt a0 1 ≤ 57 ∧ 48 ≤ bt a0 2 ∧ bt a0 2 ≤ 57 then some (codeAt a0 3) else some 0) else some 0
theorem reply_bytes {a0 : ByteArray} (h : 4 ≤ a0.size) (j : Nat) (hj : j < 3) : (((a0.extract 0 3).data.toList.getD j 0).toNat : Int) = bt a0 (j : Int) := by
  have hj2 : j < a0.size := by omega
  unfold bt
  simp only [Int.toNat_natCast]
  rw [dif_pos hj2, List.getD_eq_getElem?_getD]
  have e : (a0.extract 0 3).data.toList[j]? = some (a0[j]) := by
    rw [Lib.extract_data]
    rw [List.getElem?_take, if_pos (by omega), List.getElem?_drop, Nat.zero_add]
    have hl : j < a0.data.toList.length := by rw [← Lib.size_eq]; exact hj2
    rw [List.getElem?_eq_getElem hl]
    rfl
  rw [e]
  rfl
theorem reply_u8 (a0 : ByteArray) (j : Int) : 0 ≤ bt a0 j ∧ bt a0 j ≤ 255 := by
  unfold bt
  split
  · rename_i h
    have := (a0[j.toNat]'h).toNat_lt
    omega
  · omega
theorem codeAt_le (a0 : ByteArray) {k : Nat} (h : figsTo a0 k) : 0 ≤ codeAt a0 k ∧ (k ≤ 3 → codeAt a0 k ≤ 999) := by
  match k with
  | 0 => exact ⟨Int.le_refl _, fun _ => by show (0 : Int) ≤ 999; omega⟩
  | 1 =>
    have h0 := h 0 (by omega)
    refine ⟨?_, fun _ => ?_⟩ <;> simp only [codeAt] <;> omega
  | 2 =>
    have h0 := h 0 (by omega)
    have h1 := h 1 (by omega)
    refine ⟨?_, fun _ => ?_⟩ <;> simp only [codeAt] <;> omega
  | 3 =>
    have h0 := h 0 (by omega)
    have h1 := h 1 (by omega)
    have h2 := h 2 (by omega)
    refine ⟨?_, fun _ => ?_⟩ <;> simp only [codeAt] <;> omega
  | k + 4 =>
    refine ⟨?_, fun h' => by omega⟩
    have := codeAt_le a0 (k := k + 3) (fun j hj => h j (by omega))
    have h3 := h (k + 3) (by omega)
    have e : codeAt a0 (k + 4) = codeAt a0 (k + 3) * 10 + (bt a0 ((k + 3 : Nat) : Int) - 48) := rfl
    omega
theorem code_step (a0 : ByteArray) {k : Nat} (hk : k < 3) (h : figsTo a0 k) (h0 : 48 ≤ bt a0 (k : Int)) (h1 : bt a0 (k : Int) ≤ 57) : wrap64 (wrap64 (10 * codeAt a0 k) + (bt a0 (k : Int) - 48) % 256) = codeAt a0 (k + 1) := by
  have := codeAt_le a0 h
  have e : codeAt a0 (k + 1) = codeAt a0 k * 10 + (bt a0 (k : Int) - 48) := rfl
  have h9 := this.2 (by omega)
  unfold wrap64
  omega
theorem bw_below (w : World) (e : TypeId) (s : ByteArray) : Below w.heap.size w (Lib.bytesWorld w e s) := ⟨rfl, rfl, rfl, by rw [Lib.bytesWorld_size]; omega, fun j hj => Lib.bytesWorld_at_old w e s j hj⟩
set_option maxHeartbeats 4000000 in
set_option maxRecDepth 100000 in
theorem impl_ReplyCode.calls (a0 : ByteArray) (r : Int) (w : World) (h : impl_ReplyCode.f a0 = some r) :
    Calls Try.prog 11 #[.string a0] w fun e w' => e = .returned (.int .i64 r) ∧ Below w.heap.size w w' := by
  unfold impl_ReplyCode.f at h
  by_cases c1 : (a0.size : Int) < 4
  · rw [if_pos c1] at h
    obtain rfl := Option.some.inj h
    have c1b0 : decide ((a0.size : Int) < 4) = true := decide_eq_true c1
    have c1b1 : decide (a0.size < 4) = true := decide_eq_true (by omega)
    clear c1 h
    go_enter Try.func11, Try.ntmps11
    go_wp2
    go_ret
    exact ⟨rfl, Below.refl _ _⟩
  rw [if_neg c1] at h
  have hsz : 4 ≤ a0.size := by omega
  have c1b0 : decide ((a0.size : Int) < 4) = false := decide_eq_false c1
  have c1b1 : decide (a0.size < 4) = false := decide_eq_false (by omega)
  have hx0 : ∀ h : 0 < a0.size, ((a0[0]'h).toNat : Int) = bt a0 0 := bt_at a0 0
  have q0 : (0 < a0.size) = True := eq_true (by omega)
  have qi0 : (0 < (a0.size : Int)) = True := eq_true (by omega)
  have hx3 : ∀ h : 3 < a0.size, ((a0[3]'h).toNat : Int) = bt a0 3 := bt_at a0 3
  have q3 : (3 < a0.size) = True := eq_true (by omega)
  have qi3 : (3 < (a0.size : Int)) = True := eq_true (by omega)
  have hb0 := Aside0.mk (reply_u8 a0 0)
  have hb1 := Aside0.mk (reply_u8 a0 1)
  have hb2 := Aside0.mk (reply_u8 a0 2)
  have hby := Aside0.mk (@reply_bytes a0 hsz)
  have HS := Aside0.mk hsz
  clear c1 hsz
  by_cases c2 : bt a0 0 < 50
  · rw [if_pos c2] at h
    obtain rfl := Option.some.inj h
    have c2b0 : decide ((bt a0 0) < 50) = true := decide_eq_true c2
    clear c2 h
    go_enter Try.func11, Try.ntmps11
    go_wp2
    go_ret
    exact ⟨rfl, Below.refl _ _⟩
  rw [if_neg c2] at h
  have c2b0 : decide ((bt a0 0) < 50) = false := decide_eq_false c2
  have C2 := Aside0.mk c2
  clear c2
  by_cases c3 : bt a0 0 > 53
  · rw [if_pos c3] at h
    obtain rfl := Option.some.inj h
    have c3b0 : decide (53 < (bt a0 0)) = true := decide_eq_true c3
    clear c3 h
    go_enter Try.func11, Try.ntmps11
    go_wp2
    go_ret
    exact ⟨rfl, Below.refl _ _⟩
  rw [if_neg c3] at h
  have c3b0 : decide (53 < (bt a0 0)) = false := decide_eq_false c3
  have C3 := Aside0.mk c3
  clear c3
  by_cases c4 : bt a0 3 = 32
  · rw [if_pos c4] at h
    have c4b0 : ((bt a0 3) == 32) = true := beq_iff_eq.mpr c4
    have c4b1 : ((bt a0 3) != 32) = false := bne_eq_false_iff_eq.mpr c4
    clear c4
    have HH := Aside0.mk h
    clear h
    have hs3 : (a0.extract 0 3).size = 3 := by rw [Lib.size_eq, Lib.extract_data, List.length_take, List.length_drop, ← Lib.size_eq]; have := HS.out; omega
    have hcv : ∀ W : World, (convert 9 27 (.string (a0.extract 0 3))).run Try.prog W = .ok (.slice (some ⟨W.heap.size, 0, none⟩) 3 (grownCap W 3 0 5)) (Lib.bytesWorld W 5 (a0.extract 0 3)) := fun W => by
      have := Lib.run_convert_string_bytes (P := Try.prog) W 9 27 5 (a0.extract 0 3) Try.underlying9 Try.underlying27 Try.underlying5
      rw [hs3] at this
      exact this
    have q33 : (3 ≤ (a0.size : Int)) = True := eq_true (by have := HS.out; omega)
    have q34 : (3 ≤ a0.size) = True := eq_true (by have := HS.out; omega)
    go_enter Try.func11, Try.ntmps11
    go_wp2
    go_loopw [3, 28] (fun c i wr => ∃ k : Nat, k ≤ 3 ∧ i = .int .i64 (k : Int) ∧ c = .int .i64 (codeAt a0 k) ∧ Aside0 (figsTo a0 k) ∧ Aside0 (∀ j : Nat, j < 3 → wr.cell? ⟨w.heap.size, j, none⟩ = some (.int .u8 (bt a0 (j : Int)))) ∧ Below w.heap.size w wr) (fun _ i _ => 3 - (intOf i).toNat)
    case atStart =>
      exact ⟨0, by omega, rfl, rfl, ⟨fun j hj => by omega⟩, ⟨fun j hj => by have := Lib.bytesWorld_cell w 5 (a0.extract 0 3) j (by omega); rw [hby.out j hj] at this; exact this⟩, bw_below _ _ _⟩
    case round =>
      obtain ⟨k, hk, rfl, rfl, hF, hC, hB⟩ := hrel
      by_cases hlt : k < 3
      · have hc := hC.out k hlt
        have hB0 := Aside0.mk hB
        have hx := reply_u8 a0 (k : Int)
        by_cases d1 : bt a0 (k : Int) < 48
        · have d1b0 : decide (bt a0 (k : Int) < 48) = true := decide_eq_true d1
          have hr : r = 0 := by
            have := HH.out
            rw [if_neg ?_] at this
            · exact (Option.some.inj this).symm
            · rintro ⟨e1, e2, e3, e4⟩
              have e0 := C2.out
              rcases (show k = 0 ∨ k = 1 ∨ k = 2 by omega) with rfl | rfl | rfl
              · exact absurd d1 (by show ¬ bt a0 0 < 48; omega)
              · exact absurd d1 (by show ¬ bt a0 1 < 48; omega)
              · exact absurd d1 (by show ¬ bt a0 2 < 48; omega)
          subst hr
          clear d1
          go_wp2
          go_ret
          exact ⟨rfl, hB⟩
        · have d1b0 : decide (bt a0 (k : Int) < 48) = false := decide_eq_false d1
          have D1 := Aside0.mk d1
          clear d1
          by_cases d2 : bt a0 (k : Int) > 57
          · have d2b0 : decide (57 < bt a0 (k : Int)) = true := decide_eq_true d2
            have hr : r = 0 := by
              have := HH.out
              rw [if_neg ?_] at this
              · exact (Option.some.inj this).symm
              · rintro ⟨e1, e2, e3, e4⟩
                have e0 := C3.out
                rcases (show k = 0 ∨ k = 1 ∨ k = 2 by omega) with rfl | rfl | rfl
                · exact absurd d2 (by show ¬ bt a0 0 > 57; omega)
                · exact absurd d2 (by show ¬ bt a0 1 > 57; omega)
                · exact absurd d2 (by show ¬ bt a0 2 > 57; omega)
            subst hr
            clear d2
            go_wp2
            go_ret
            exact ⟨rfl, hB⟩
          · have d2b0 : decide (57 < bt a0 (k : Int)) = false := decide_eq_false d2
            have D2 := Aside0.mk d2
            clear d2
            have hst := Aside0.mk (code_step a0 hlt hF.out (by have := D1.out; omega) (by have := D2.out; omega))
            go_wp2
            go_roundw
            case rel =>
              refine ⟨k + 1, by omega, by go_num, ?_, ⟨fun j hj => ?_⟩, hC, hB⟩
              · rw [← hst.out]
              · rcases Nat.lt_or_ge j k with h | h
                · exact hF.out j h
                · obtain rfl : j = k := by omega
                  have := D1.out
                  have := D2.out
                  omega
            case measure => simp [intOf]; omega
      · obtain rfl : k = 3 := by omega
        have hr : codeAt a0 3 = r := by
          have h1 := hF.out 1 (by omega)
          have h2 := hF.out 2 (by omega)
          have := HH.out
          rw [if_pos ⟨h1.1, h1.2, h2.1, h2.2⟩] at this
          exact Option.some.inj this
        rw [hr]
        go_wp2
        go_ret
        exact ⟨rfl, hB⟩
  · rw [if_neg c4] at h
    obtain rfl := Option.some.inj h
    have c4b0 : ((bt a0 3) == 32) = false := beq_eq_false_iff_ne.mpr c4
    have c4b1 : ((bt a0 3) != 32) = true := bne_iff_ne.mpr c4
    clear c4 h
    go_enter Try.func11, Try.ntmps11
    go_wp2
    go_ret
    exact ⟨rfl, Below.refl _ _⟩
end Go.Proofs.Ytnkdnfnpknfgoaa.Q
