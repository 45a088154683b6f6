/- Of a text of ours what this claim needs. -/
import Derived.Test.YtpeefjfklklhdaaDoorZzFnHopsQ0
import Derived.Test.YtpeefjfklklhdaaDoorZzFnHopsQ3
import Derived.Test.YtpeefjfklklhdaaDoorZzFnHopsQ14
import Derived.Test.YtpeefjfklklhdaaDoorWZeros
import Derived.WalkKit
import Derived.BigCall
import Derived.Deep.LoopGhost
namespace Go.Proofs.YtpeefjfklklhdaaDoor.Q
open Go.RowKit Go.Proofs.YtpeefjfklklhdaaDoorW.PrintWords Go.Proofs.YtpeefjfklklhdaaDoorW.PrintLast Go.Proofs.YtpeefjfklklhdaaDoorW.PrintMore
set_option linter.unusedVariables false
set_option linter.unusedSimpArgs false
namespace HHop
theorem new_at (W : World) (o1 o2 : Obj) (n : Nat) (h : W.heap.size = n) : ((W.alloc o1).alloc o2).heap[n + 1]? = some o2 := by
  have := heap_alloc_new (W.alloc o1) o2
  have e : (W.alloc o1).heap.size = n + 1 := by simp [h]
  rw [e] at this
  exact this
theorem infoStr : (Tryd.prog.info? 9).map (fun i => (i.zero, i.size, i.bytes)) = some (some (.string ⟨#[]⟩), 1, 16) := by kernel_rfl
set_option maxHeartbeats 2000000 in
set_option maxRecDepth 100000 in
theorem grow (n : Nat) (h0 : 0 < n) (hn : n ≤ 1099511627776) (w : World) :
    Calls Tryd.prog 113 #[.slice none 0 0, .int .i64 n] w fun e w' => ∃ v0 : Value, e = .returned v0 ∧ Kd.R Kd.string 9 w' w.heap.size (fun _ => True) v0 [] ∧ Below w.heap.size w w' := by
  obtain ⟨i0, hi, hz0, hz1, hz2⟩ := info_parts infoStr
  have u38 := run_underlying Tryd.underlying38
  have HN := Aside0.mk hn
  have e1 : wrap64 ((n : Int) - wrap64 (0 - 0)) = n := by unfold wrap64; omega
  have e2 : decide ((n : Int) > 0) = true := decide_eq_true (by omega)
  have e3 : decide ((n : Int) < 0) = false := decide_eq_false (by omega)
  have hdz : ∀ (W : World), Kd.string.M W w.heap.size (fun _ => False) ByteArray.empty (Value.string ⟨#[]⟩).cells.toList := fun W => rfl
  have hcut : ∀ (W : World) (A : Option Addr) (m c : Nat), (Instr.slice 38 (.slice A m c) none (some (.int .i64 0)) none).run Tryd.prog W = .ok (.slice A 0 c) W := by
    intro W A m c
    have hel : Tryd.prog.elem 38 = 9 := by simp [Program.elem, Tryd.underlying38]
    have hu : Tryd.prog.underlying 38 = some (.slice (Tryd.prog.elem 38)) := by rw [hel]; exact Tryd.underlying38
    have ha : (A.map fun x => x.add 0) = A := by cases A <;> simp [Addr.add]
    rw [run_slice_h W 38 A m c hu .i64 0 (by omega) (by omega), hel]
    simp [sizeOf, typeInfo, hi, hz1, sliced, Result.andThen, ha]
  go_enter Tryd.func113, Tryd.ntmps113
  go_wp2_with (at_builtin; refine Kd.R_append_zeros Kd.string (w0 := w) w.heap.size rfl (.tmp 20) (.tmp 21) 38 3 9 (.string ⟨#[]⟩) 16 rfl Tryd.underlying38 Tryd.underlying3 infoStr rfl (by decide) (by omega) (.slice none 0 0) [] ByteArray.empty (n : Int) (fun _ => True) rfl rfl ?z (fun _ _ => trivial) ?aO (by omega) ?aB ?aS ?aL ?_; (case z => exact hdz _); (case aO => exact Kd.R_nil _ _ _ _ _); (case aB => exact Below.refl _ _); (case aS => exact Nat.le_refl _); (case aL => simp; omega); intro v1 w1 HO HB1 _ _; clear hdz; obtain ⟨A1, c1, rfl⟩ := Kd.R_slice HO)
  go_wp2
  go_ret
  refine ⟨_, rfl, ?_, HB1⟩
  have h := Kd.R_take (m := 0) HO (Nat.zero_le _)
  rw [List.take_zero] at h
  exact h
set_option maxHeartbeats 4000000 in
set_option maxRecDepth 100000 in
theorem concat (b : Nat) (A1 A2 : Option Addr) (c1 c2 : Nat) (l1 l2 : List ByteArray) (w : World) (h0 : w.cell? ⟨b, 0, none⟩ = some (.slice A1 l1.length c1)) (h1 : w.cell? ⟨b, 1, none⟩ = some (.slice A2 l2.length c2))
    (hC1 : Kd.C Kd.string w A1 l1.length l1) (hC2 : Kd.C Kd.string w A2 l2.length l2) (hp : 0 < l1.length + l2.length) (hl : l1.length + l2.length ≤ 1099511627776) :
    Calls Tryd.prog 78 #[.slice (some ⟨b, 0, none⟩) 2 2] w fun e w' => ∃ v0 : Value, e = .returned v0 ∧ Kd.R Kd.string 9 w' w.heap.size (fun _ => True) v0 (l1 ++ l2) ∧ Below w.heap.size w w' := by
  have HC1 := Aside0.mk hC1
  have HC2 := Aside0.mk hC2
  have HL := Aside0.mk hl
  clear hC1 hC2
  have a1 : wrap64 (0 + (l1.length : Int)) = l1.length := by unfold wrap64; omega
  have a2 : wrap64 ((l1.length : Int) + (l2.length : Int)) = ((l1.length + l2.length : Nat) : Int) := by unfold wrap64; omega
  have d1 : decide ((l1.length : Int) < 0) = false := decide_eq_false (by omega)
  have d2 : decide (((l1.length + l2.length : Nat) : Int) < 0) = false := decide_eq_false (by omega)
  go_enter Tryd.func78, Tryd.ntmps78
  go_wp2
  go_loopw [3, 11] (fun s i wr => wr = w ∧ (s = .int .i64 0 ∧ i = .int .i64 0 ∨ s = .int .i64 l1.length ∧ i = .int .i64 1 ∨ s = .int .i64 ((l1.length + l2.length : Nat) : Int) ∧ i = .int .i64 2)) (fun s i _ => 2 - (intOf i).toNat)
  case atStart => exact ⟨rfl, .inl ⟨rfl, rfl⟩⟩
  case round =>
    obtain ⟨hw, hrel⟩ := hrel
    replace hw := hw.symm
    subst hw
    rcases hrel with ⟨rfl, rfl⟩ | ⟨rfl, rfl⟩ | ⟨rfl, rfl⟩
    · go_wp2
      go_roundw
      case rel => first | exact ⟨trivial, .inr (.inl ⟨rfl, rfl⟩)⟩ | exact ⟨rfl, .inr (.inl ⟨rfl, rfl⟩)⟩ | (simp; done)
      case measure => simp [intOf]
    · go_wp2
      go_roundw
      case rel => first | exact ⟨trivial, .inr (.inr ⟨rfl, rfl⟩)⟩ | exact ⟨rfl, .inr (.inr ⟨rfl, rfl⟩)⟩ | (simp; done)
      case measure => simp [intOf]
    · go_wp2_with (go_at_call 113; refine (grow (l1.length + l2.length) hp HL.out _).mono ?_)
      rintro e W1 ⟨v1, rfl, HO1, HB1⟩
      go_wp2
      go_loopw [6, 27] (fun v i wr => ∃ xs : List ByteArray, Kd.R Kd.string 9 wr w.heap.size (fun _ => True) v xs ∧ Below w.heap.size w wr ∧ (i = .int .i64 0 ∧ xs = [] ∨ i = .int .i64 1 ∧ xs = l1 ∨ i = .int .i64 2 ∧ xs = l1 ++ l2)) (fun _ i _ => 2 - (intOf i).toNat)
      case atStart => exact ⟨[], HO1, HB1, .inl ⟨rfl, rfl⟩⟩
      case round =>
        obtain ⟨xs, hO, hB, hrel⟩ := hrel
        have HO := Aside0.mk hO
        have HB := Aside0.mk hB
        clear hO hB
        rcases hrel with ⟨rfl, rfl⟩ | ⟨rfl, rfl⟩ | ⟨rfl, rfl⟩
        · have h0' := pw_cell_below HB.out h0
          go_wp2_with (at_builtin; refine Kd.R_append_rows Kd.string (w0 := w) w.heap.size rfl (.tmp 31) (.tmp 32) 38 9 (.string ⟨#[]⟩) 16 rfl Tryd.underlying38 infoStr rfl (by decide) (by omega) _ [] l1 _ _ _ (fun _ => True) (fun _ => False) rfl rfl HO.out (Kd.C_below HC1.out HB.out) (fun _ _ h => h) (fun _ h => h.elim) (fun _ _ => trivial) HB.out HB.out.size (by have := HL.out; simp; omega) ?_; intro v1 w1 HO2 HB2 _ _)
          go_roundw
          case rel => exact ⟨l1, HO2, HB2, .inr (.inl ⟨rfl, rfl⟩)⟩
          case measure => simp [intOf]
        · have h1' := pw_cell_below HB.out h1
          go_wp2_with (at_builtin; refine Kd.R_append_rows Kd.string (w0 := w) w.heap.size rfl (.tmp 31) (.tmp 32) 38 9 (.string ⟨#[]⟩) 16 rfl Tryd.underlying38 infoStr rfl (by decide) (by omega) _ xs l2 _ _ _ (fun _ => True) (fun _ => False) rfl rfl HO.out (Kd.C_below HC2.out HB.out) (fun _ _ h => h) (fun _ h => h.elim) (fun _ _ => trivial) HB.out HB.out.size (by have := HL.out; omega) ?_; intro v1 w1 HO2 HB2 _ _)
          go_roundw
          case rel => exact ⟨xs ++ l2, HO2, HB2, .inr (.inr ⟨rfl, rfl⟩)⟩
          case measure => simp [intOf]
        · go_wp2
          go_ret
          exact ⟨_, rfl, HO.out, HB.out⟩
end HHop
def impl_HopPut.f (k : Nat) (a0 : ByteArray) (l1 : List ByteArray) : Option (List ByteArray × Bool) :=
  (impl_DomainOk.f k a0).bind fun t => if t = true then (impl_isBody.f k l1).bind fun u => if u = true then (if (l1.length : Int) = 12 then some ([], false) else if a0.size ≤ 1099511627776 ∧ l1.length ≤ 1099511627775 then some (((⟨#[72, 111, 112, 58, 32]⟩ : ByteArray) ++ a0) :: l1, true) else none) else some ([], false) else some ([], false)
set_option maxHeartbeats 4000000 in
set_option maxRecDepth 100000 in
theorem impl_HopPut.calls (k : Nat) (a0 : ByteArray) (A1 : Option Addr) (c1 : Nat) (l1 : List ByteArray) (r1 : List ByteArray) (r2 : Bool) (w : World) (hr1 : Kd.C Kd.string w A1 l1.length l1) (hc1 : l1.length ≤ c1) (hG : GOK w) (h : impl_HopPut.f k a0 l1 = some (r1, r2)) :
    Calls Tryd.prog 36 #[.string a0, .slice A1 l1.length c1] w fun e w' => ∃ v0_ : Value, e = .returned (.tuple #[v0_, .bool r2]) ∧ Kd.R Kd.string 9 w' w.heap.size (fun _ => True) v0_ r1 ∧ Below w.heap.size w w' := by
  have HR1 := Aside0.mk hr1
  have HC1 := Aside0.mk hc1
  have HG := Aside0.mk hG
  have HB := Aside0.mk (Below.refl w.heap.size w)
  clear hr1 hc1 hG
  unfold impl_HopPut.f at h
  obtain ⟨t, A3, H⟩ := Option.bind_eq_some_iff.mp h
  replace A3 := Aside0.mk A3
  clear h
  by_cases c4 : t = true
  · subst c4
    rw [if_pos rfl] at H
    obtain ⟨u, A5, H⟩ := Option.bind_eq_some_iff.mp H
    replace A5 := Aside0.mk A5
    by_cases c6 : u = true
    · subst c6
      rw [if_pos rfl] at H
      by_cases c7 : (l1.length : Int) = 12
      · rw [if_pos c7] at H
        have c7b0 : ((l1.length : Int) == 12) = true := beq_iff_eq.mpr c7
        have c7b1 : (l1.length == 12) = true := beq_iff_eq.mpr (by omega)
        clear c7
        simp only [Option.some.injEq, Prod.mk.injEq] at H
        obtain ⟨rfl, rfl⟩ := H
        go_enter Tryd.func36, Tryd.ntmps36
        go_wp2_with (first
          | (go_at_call 18; (with_reducible refine (impl_DomainOk.calls k a0 true _ HG.out A3.out).mono ?_); rintro e w8 ⟨rfl, hb⟩; have HB8 := Aside0.mk hb; clear hb)
          | (go_at_call 74; (with_reducible refine (impl_isBody.calls k A1 c1 l1 true _ (Kd.C_below HR1.out HB8.out) HC1.out A5.out).mono ?_); rintro e w' ⟨rfl, ⟨nd, rfl⟩⟩))
        go_ret2
        exact ⟨_, rfl, Kd.R_nil _ _ _ _ _, pw_below_drewN HB8.out _⟩
      · rw [if_neg c7] at H
        have c7b0 : ((l1.length : Int) == 12) = false := beq_eq_false_iff_ne.mpr c7
        have c7b1 : (l1.length == 12) = false := beq_eq_false_iff_ne.mpr (by omega)
        clear c7
        by_cases c8 : a0.size ≤ 1099511627776 ∧ l1.length ≤ 1099511627775
        · rw [if_pos c8] at H
          have LM := Aside0.mk c8
          clear c8
          simp only [Option.some.injEq, Prod.mk.injEq] at H
          obtain ⟨rfl, rfl⟩ := H
          have hs5 : 5 + a0.size ≤ 9223372036854775807 := by have := LM.out; omega
          go_enter Tryd.func36, Tryd.ntmps36
          go_wp2_with (first
            | (go_at_call 18; (with_reducible refine (impl_DomainOk.calls k a0 true _ HG.out A3.out).mono ?_); rintro e w8 ⟨rfl, hb⟩; have HB8 := Aside0.mk hb; clear hb)
            | (go_at_call 74; (with_reducible refine (impl_isBody.calls k A1 c1 l1 true _ (Kd.C_below HR1.out HB8.out) HC1.out A5.out).mono ?_); rintro e w' ⟨rfl, ⟨nd, rfl⟩⟩))
          have HC0 : Kd.R Kd.string 9 ((w8.drewN nd).alloc (Obj.cells #[Value.string ((⟨#[72, 111, 112, 58, 32]⟩ : ByteArray) ++ a0)] 9)) 0 (fun _ => True) (.slice (some ⟨w8.heap.size, 0, none⟩) 1 1) [(⟨#[72, 111, 112, 58, 32]⟩ : ByteArray) ++ a0] :=
            ⟨fun _ _ => trivial, encs Value.string [(⟨#[72, 111, 112, 58, 32]⟩ : ByteArray) ++ a0], own_lit_of (enc := Value.string) (w8.drewN nd) 0 9 [(⟨#[72, 111, 112, 58, 32]⟩ : ByteArray) ++ a0] (Nat.zero_le _) (by show 1 ≤ 9223372036854775807; omega), Kd.reps_scalar _⟩
          refine (HHop.concat (w8.heap.size + 1) (some ⟨w8.heap.size, 0, none⟩) A1 1 c1 [(⟨#[72, 111, 112, 58, 32]⟩ : ByteArray) ++ a0] l1 _ ?h0 ?h1 (Kd.C_alloc (Kd.R_reads' HC0).2.2 _) (Kd.C_alloc (Kd.C_alloc (Kd.C_drewN (Kd.C_below HR1.out HB8.out) nd) _) _) (by show 0 < 1 + l1.length; omega) (by have := LM.out; show 1 + l1.length ≤ _; omega)).mono ?_
          case h0 => exact (Lib.cell_of_heap (HHop.new_at (w8.drewN nd) _ _ w8.heap.size (by simp)) 0).trans rfl
          case h1 => exact (Lib.cell_of_heap (HHop.new_at (w8.drewN nd) _ _ w8.heap.size (by simp)) 1).trans rfl
          rintro e W3 ⟨v0, rfl, HO, hb⟩
          have hb2 := Aside0.mk (below_step (below_alloc (below_alloc (pw_below_drewN HB8.out nd) _) _) hb)
          have hO2 := Aside0.mk (Kd.R_lower HO (below_size (below_alloc (below_alloc (pw_below_drewN HB8.out nd) _) _)))
          clear hb HO HC0
          go_wp2
          go_ret2
          exact ⟨_, rfl, hO2.out, hb2.out⟩
        · rw [if_neg c8] at H
          cases H
    · rw [if_neg c6] at H
      replace c6 := Bool.eq_false_iff.mpr c6
      subst c6
      simp only [Option.some.injEq, Prod.mk.injEq] at H
      obtain ⟨rfl, rfl⟩ := H
      go_enter Tryd.func36, Tryd.ntmps36
      go_wp2_with (first
        | (go_at_call 18; (with_reducible refine (impl_DomainOk.calls k a0 true _ HG.out A3.out).mono ?_); rintro e w8 ⟨rfl, hb⟩; have HB8 := Aside0.mk hb; clear hb)
        | (go_at_call 74; (with_reducible refine (impl_isBody.calls k A1 c1 l1 false _ (Kd.C_below HR1.out HB8.out) HC1.out A5.out).mono ?_); rintro e w' ⟨rfl, ⟨nd, rfl⟩⟩))
      go_ret2
      exact ⟨_, rfl, Kd.R_nil _ _ _ _ _, pw_below_drewN HB8.out _⟩
  · rw [if_neg c4] at H
    replace c4 := Bool.eq_false_iff.mpr c4
    subst c4
    simp only [Option.some.injEq, Prod.mk.injEq] at H
    obtain ⟨rfl, rfl⟩ := H
    go_enter Tryd.func36, Tryd.ntmps36
    go_wp2_with (go_at_call 18; (with_reducible refine (impl_DomainOk.calls k a0 false _ HG.out A3.out).mono ?_); rintro e w8 ⟨rfl, hb⟩; have HB8 := Aside0.mk hb; clear hb)
    go_ret2
    exact ⟨_, rfl, Kd.R_nil _ _ _ _ _, HB8.out⟩
end Go.Proofs.YtpeefjfklklhdaaDoor.Q
