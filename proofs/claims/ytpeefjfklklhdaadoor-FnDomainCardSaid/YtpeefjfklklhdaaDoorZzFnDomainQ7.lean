/- Of a text of ours what this claim needs. -/
import Derived.Test.YtpeefjfklklhdaaDoorZzFnDomainQ0
import Derived.Test.YtpeefjfklklhdaaDoorZzFnDomainQ2
import Derived.Test.YtpeefjfklklhdaaDoorZzFnDomainQ3
import Derived.Test.YtpeefjfklklhdaaDoorZzFnDomainQ6
import Derived.Test.YtpeefjfklklhdaaDoorZzFnDomainHSplit
namespace Go.Proofs.YtpeefjfklklhdaaDoor.Q
open Go.RowKit Go.Proofs.YtpeefjfklklhdaaDoorW.PrintWords Go.Proofs.YtpeefjfklklhdaaDoorW.PrintLast Go.Proofs.YtpeefjfklklhdaaDoorW.PrintMore
attribute [local go_sem] max2_int min2_int max_two min_two max_three min_three max_four min_four
set_option linter.unusedVariables false
set_option linter.unusedSimpArgs false
def laws_FnDomain.j0 : Nat → ByteArray → ByteArray → Bool → Bool → Option (Bool)
  | 0, _, _, _, _ => none
  | k + 1, x3, x4, x5, x39 => if x39 = true then ((spec_DomainIn.f k x3 x4).bind fun t110 => (if (x5 == t110) = true then ((impl_DomainOk.f k x3).bind fun t111 => ((spec_DomainOk.f k x3).bind fun t112 => (some (t111 == t112)))) else (some false))) else (if 2 + x3.size ≤ 9223372036854775807 then ((impl_DomainIn.f k x3 x3).bind fun t113 => (if t113 = true then ((impl_DomainOk.f k ((⟨#[120, 46]⟩ : ByteArray) ++ x3)).bind fun t114 => (if t114 = true then ((impl_DomainIn.f k ((⟨#[120, 46]⟩ : ByteArray) ++ x3) x3).bind fun t115 => (if t115 = true then (if x5 = true then ((impl_DomainIn.f k ((⟨#[120, 46]⟩ : ByteArray) ++ x3) x4).bind fun t116 => (if t116 = true then ((impl_DomainIn.f k x3 ((⟨#[120, 46]⟩ : ByteArray) ++ x3)).bind fun t117 => (if t117 = true then (some false) else (some (decide ((x3.size : Int) ≥ (x4.size : Int)))))) else (some false))) else ((impl_DomainIn.f k x3 ((⟨#[120, 46]⟩ : ByteArray) ++ x3)).bind fun t118 => (if t118 = true then (some false) else (some true)))) else (some false))) else ((impl_DomainIn.f k x3 ((⟨#[120, 46]⟩ : ByteArray) ++ x3)).bind fun t119 => (if t119 = true then (some false) else (if x5 = true then (some (decide ((x3.size : Int) ≥ (x4.size : Int)))) else (some true)))))) else (some false))) else (none))
def laws_FnDomain.f (k : Nat) (l0 : List Int) : Option (Bool) := if (l0.length : Int) > 1048576 then (some true) else ((spec_DrawDomainIn.f k l0).bind fun bt102 => ((impl_DomainIn.f k bt102.1 bt102.2).bind fun t104 => ((spec_DomainIn.f k bt102.1 bt102.2).bind fun t105 => (if (t104 != t105) = true then (laws_FnDomain.j0 k bt102.1 bt102.2 t104 true) else ((impl_DomainOk.f k bt102.1).bind fun t106 => ((spec_DomainOk.f k bt102.1).bind fun t107 => (if (t106 != t107) = true then (laws_FnDomain.j0 k bt102.1 bt102.2 t104 true) else ((impl_DomainOk.f k bt102.1).bind fun t108 => (if t108 = true then ((impl_DomainOk.f k bt102.2).bind fun t109 => (laws_FnDomain.j0 k bt102.1 bt102.2 t104 (!t109))) else (laws_FnDomain.j0 k bt102.1 bt102.2 t104 true))))))))))
set_option maxHeartbeats 8000000 in
set_option maxRecDepth 100000 in
theorem laws_FnDomain.calls (k : Nat) (A0 : Option Addr) (c0 : Nat) (l0 : List Int) (r : Bool) (w : World) (hr0 : Kd.C (Kd.int .u8) w A0 l0.length l0) (hc0 : l0.length ≤ c0) (hG : GOK w) (h : laws_FnDomain.f k l0 = some r) :
    Calls Tryd.prog 3 #[.slice A0 l0.length c0] w fun e w' => e = .returned (.bool r) ∧ Below w.heap.size w w' := by
  have HR0 := Aside0.mk hr0
  have HC0 := Aside0.mk hc0
  clear hr0 hc0
  have HG := Aside0.mk hG
  clear hG
  have HB := Aside0.mk (Below.refl w.heap.size w)
  have H : (if (l0.length : Int) > 1048576 then (some true) else ((spec_DrawDomainIn.f k l0).bind fun bt102 => ((impl_DomainIn.f k bt102.1 bt102.2).bind fun t104 => ((spec_DomainIn.f k bt102.1 bt102.2).bind fun t105 => (if (t104 != t105) = true then (laws_FnDomain.j0 k bt102.1 bt102.2 t104 true) else ((impl_DomainOk.f k bt102.1).bind fun t106 => ((spec_DomainOk.f k bt102.1).bind fun t107 => (if (t106 != t107) = true then (laws_FnDomain.j0 k bt102.1 bt102.2 t104 true) else ((impl_DomainOk.f k bt102.1).bind fun t108 => (if t108 = true then ((impl_DomainOk.f k bt102.2).bind fun t109 => (laws_FnDomain.j0 k bt102.1 bt102.2 t104 (!t109))) else (laws_FnDomain.j0 k bt102.1 bt102.2 t104 true))))))))))) = some r := h
  clear h
  by_cases c2 : (l0.length : Int) > 1048576
  · rw [if_pos c2] at H
    have c2b0 : decide (1048576 < (l0.length : Int)) = true := decide_eq_true c2
    have c2b1 : decide (1048576 < l0.length) = true := decide_eq_true (by omega)
    clear c2
    obtain rfl := Option.some.inj H
    go_enter Tryd.func3, Tryd.ntmps3
    go_wp2
    go_ret
    exact ⟨by first | rfl | (simp [errW_none, errW_some] <;> rfl) | (simp [*, errW_none, errW_some] <;> rfl), by repeat (first | (with_reducible first | exact HB.out | apply below_alloc | apply pw_below_drewN | apply below_drew1) | exact HB.out)⟩
  · rw [if_neg c2] at H
    have c2b0 : decide (1048576 < (l0.length : Int)) = false := decide_eq_false c2
    have c2b1 : decide (1048576 < l0.length) = false := decide_eq_false (by omega)
    clear c2
    replace H := Option.bind_eq_some_iff.mp H
    obtain ⟨⟨t102, t103⟩, A30, H⟩ := H
    replace H : ((impl_DomainIn.f k t102 t103).bind fun t104 => ((spec_DomainIn.f k t102 t103).bind fun t105 => (if (t104 != t105) = true then (laws_FnDomain.j0 k t102 t103 t104 true) else ((impl_DomainOk.f k t102).bind fun t106 => ((spec_DomainOk.f k t102).bind fun t107 => (if (t106 != t107) = true then (laws_FnDomain.j0 k t102 t103 t104 true) else ((impl_DomainOk.f k t102).bind fun t108 => (if t108 = true then ((impl_DomainOk.f k t103).bind fun t109 => (laws_FnDomain.j0 k t102 t103 t104 (!t109))) else (laws_FnDomain.j0 k t102 t103 t104 true))))))))) = some r := H
    have A3 := Aside0.mk A30
    clear A30
    replace H := Option.bind_eq_some_iff.mp H
    obtain ⟨t104, A40, H⟩ := H
    replace H : ((spec_DomainIn.f k t102 t103).bind fun t105 => (if (t104 != t105) = true then (laws_FnDomain.j0 k t102 t103 t104 true) else ((impl_DomainOk.f k t102).bind fun t106 => ((spec_DomainOk.f k t102).bind fun t107 => (if (t106 != t107) = true then (laws_FnDomain.j0 k t102 t103 t104 true) else ((impl_DomainOk.f k t102).bind fun t108 => (if t108 = true then ((impl_DomainOk.f k t103).bind fun t109 => (laws_FnDomain.j0 k t102 t103 t104 (!t109))) else (laws_FnDomain.j0 k t102 t103 t104 true)))))))) = some r := H
    have A4 := Aside0.mk A40
    clear A40
    have HC5 := Aside0.mk H
    clear H
    go_enter Tryd.func3, Tryd.ntmps3
    go_upto_region 5 with (first | ((with_reducible refine gate_callee (f := 15) rfl ?_); refine goesL_ (some 12) rfl rfl Tryd.func15 (by kernel_rfl) rfl #[.slice A0 l0.length c0] rfl (by (try simp only [List.map_toArray, List.map_cons, List.map_nil]); first | done | rfl | (simp only [List.length_drop, List.length_take]; rfl)) ?_; (with_reducible refine (spec_DrawDomainIn.calls k _ _ l0 t102 t103 _ ?side1 ?side2 A3.out).mono ?_); (case side1 => repeat (first | exact HR0.out | (with_reducible refine Kd.C_alloc ?_ _) | (with_reducible refine Kd.C_drewN ?_ _) | (with_reducible refine Kd.C_drew ?_))); (case side2 => exact HC0.out); rintro e w6 ⟨rfl, hb⟩; refine ⟨_, rfl, ?_⟩; have n0_ := Aside0.mk (below_step (by repeat (first | (with_reducible first | exact HB.out | apply below_alloc | apply pw_below_drewN | apply below_drew1) | exact HB.out)) hb); clear HB; have HB := n0_; clear n0_; (try clear hb); (try clear hb2); (try clear hk); (try clear hi)) | ((with_reducible refine gate_callee (f := 16) rfl ?_); refine goesL_ (some 17) rfl rfl Tryd.func16 (by kernel_rfl) rfl #[.string t102, .string t103] rfl (by (try simp only [List.map_toArray, List.map_cons, List.map_nil]); first | done | rfl | (simp only [List.length_drop, List.length_take]; rfl)) ?_; (with_reducible refine (impl_DomainIn.calls k t102 t103 t104 _ ?side1 A4.out).mono ?_); (case side1 => first | (with_reducible exact HG.out) | ((with_reducible repeat (first | exact HG.out | apply GOK.drewN | apply GOK.drew)); done) | exact GOK.below HG.out (by repeat (first | (with_reducible first | exact HB.out | apply below_alloc | apply pw_below_drewN | apply below_drew1) | exact HB.out))); rintro e w7 ⟨rfl, hb⟩; refine ⟨_, rfl, ?_⟩; have n0_ := Aside0.mk (below_step (by repeat (first | (with_reducible first | exact HB.out | apply below_alloc | apply pw_below_drewN | apply below_drew1) | exact HB.out)) hb); clear HB; have HB := n0_; clear n0_; (try clear hb); (try clear hb2); (try clear hk); (try clear hi)))
    (try simp only [Act.put, List.setIfInBounds_toArray, List.set_cons_zero, List.set_cons_succ])
    go_cut [39] (fun v39 wc => ∃ (kq : Nat) (x39_4 : Bool), v39 = .bool x39_4 ∧ Aside0 (laws_FnDomain.j0 kq t102 t103 t104 x39_4 = some r) ∧ Aside0 (kq ≤ k) ∧ Aside0 (Below w.heap.size w wc))
    case first =>
      have H := HC5.out
      clear HC5
      replace H := Option.bind_eq_some_iff.mp H
      obtain ⟨t105, A80, H⟩ := H
      replace H : (if (t104 != t105) = true then (laws_FnDomain.j0 k t102 t103 t104 true) else ((impl_DomainOk.f k t102).bind fun t106 => ((spec_DomainOk.f k t102).bind fun t107 => (if (t106 != t107) = true then (laws_FnDomain.j0 k t102 t103 t104 true) else ((impl_DomainOk.f k t102).bind fun t108 => (if t108 = true then ((impl_DomainOk.f k t103).bind fun t109 => (laws_FnDomain.j0 k t102 t103 t104 (!t109))) else (laws_FnDomain.j0 k t102 t103 t104 true))))))) = some r := H
      have A8 := Aside0.mk A80
      clear A80
      by_cases c9 : (t104 != t105) = true
      · rw [if_pos c9] at H
        have c9b0 : (t104 != t105) = true := c9
        (try (have c9b1 : decide (t104 = t105) = false := by simpa using c9))
        (try (have c9b2 : (t104 == t105) = false := by simpa using c9))
        (try (have c9b3 : ¬ (t104 = t105) := by simpa using c9))
        clear c9
        (first | rw [c9b0] | (simp only [i64_w, i32_w]; rw [c9b0]) | skip)
        have H' := Aside0.mk H
        clear H
        go_wp2_with (first | ((with_reducible refine gate_callee (f := 17) rfl ?_); refine goesL_ (some 21) rfl rfl Tryd.func17 (by kernel_rfl) rfl #[.string t102, .string t103] rfl (by (try simp only [List.map_toArray, List.map_cons, List.map_nil]); first | done | rfl | (simp only [List.length_drop, List.length_take]; rfl)) ?_; (with_reducible refine (spec_DomainIn.calls k t102 t103 t105 _ A8.out).mono ?_); rintro e w10 ⟨rfl, hb⟩; refine ⟨_, rfl, ?_⟩; have n0_ := Aside0.mk (below_step (by repeat (first | (with_reducible first | exact HB.out | apply below_alloc | apply pw_below_drewN | apply below_drew1) | exact HB.out)) hb); clear HB; have HB := n0_; clear n0_; (try clear hb); (try clear hb2); (try clear hk); (try clear hi)))
        go_meet
        case rel => exact ⟨_, (true), (by first | rfl | (simp; done) | (simp [*]; done)), H', ⟨by first | omega | exact Nat.le_refl _⟩, ⟨by repeat (first | (with_reducible first | exact HB.out | apply below_alloc | apply pw_below_drewN | apply below_drew1) | exact HB.out)⟩⟩
      · rw [if_neg c9] at H
        have c9b0 : (t104 != t105) = false := by simpa using c9
        (try (have c9b1 : decide (t104 = t105) = true := by simpa using c9))
        (try (have c9b2 : (t104 == t105) = true := by simpa using c9))
        clear c9
        (first | rw [c9b0] | (simp only [i64_w, i32_w]; rw [c9b0]) | skip)
        replace H := Option.bind_eq_some_iff.mp H
        obtain ⟨t106, A110, H⟩ := H
        replace H : ((spec_DomainOk.f k t102).bind fun t107 => (if (t106 != t107) = true then (laws_FnDomain.j0 k t102 t103 t104 true) else ((impl_DomainOk.f k t102).bind fun t108 => (if t108 = true then ((impl_DomainOk.f k t103).bind fun t109 => (laws_FnDomain.j0 k t102 t103 t104 (!t109))) else (laws_FnDomain.j0 k t102 t103 t104 true))))) = some r := H
        have A11 := Aside0.mk A110
        clear A110
        replace H := Option.bind_eq_some_iff.mp H
        obtain ⟨t107, A120, H⟩ := H
        replace H : (if (t106 != t107) = true then (laws_FnDomain.j0 k t102 t103 t104 true) else ((impl_DomainOk.f k t102).bind fun t108 => (if t108 = true then ((impl_DomainOk.f k t103).bind fun t109 => (laws_FnDomain.j0 k t102 t103 t104 (!t109))) else (laws_FnDomain.j0 k t102 t103 t104 true)))) = some r := H
        have A12 := Aside0.mk A120
        clear A120
        by_cases c13 : (t106 != t107) = true
        · rw [if_pos c13] at H
          have c13b0 : (t106 != t107) = true := c13
          (try (have c13b1 : decide (t106 = t107) = false := by simpa using c13))
          (try (have c13b2 : (t106 == t107) = false := by simpa using c13))
          (try (have c13b3 : ¬ (t106 = t107) := by simpa using c13))
          clear c13
          have H' := Aside0.mk H
          clear H
          go_wp2_with (first | ((with_reducible refine gate_callee (f := 17) rfl ?_); refine goesL_ (some 21) rfl rfl Tryd.func17 (by kernel_rfl) rfl #[.string t102, .string t103] rfl (by (try simp only [List.map_toArray, List.map_cons, List.map_nil]); first | done | rfl | (simp only [List.length_drop, List.length_take]; rfl)) ?_; (with_reducible refine (spec_DomainIn.calls k t102 t103 t105 _ A8.out).mono ?_); rintro e w14 ⟨rfl, hb⟩; refine ⟨_, rfl, ?_⟩; have n0_ := Aside0.mk (below_step (by repeat (first | (with_reducible first | exact HB.out | apply below_alloc | apply pw_below_drewN | apply below_drew1) | exact HB.out)) hb); clear HB; have HB := n0_; clear n0_; (try clear hb); (try clear hb2); (try clear hk); (try clear hi)) | (go_at_call 18; (with_reducible refine (impl_DomainOk.calls k t102 _ _ ?side1 A11.out).mono ?_); (case side1 => first | (with_reducible exact HG.out) | ((with_reducible repeat (first | exact HG.out | apply GOK.drewN | apply GOK.drew)); done) | exact GOK.below HG.out (by repeat (first | (with_reducible first | exact HB.out | apply below_alloc | apply pw_below_drewN | apply below_drew1) | exact HB.out))); rintro e w15 ⟨rfl, hb⟩; have n0_ := Aside0.mk (below_step (by repeat (first | (with_reducible first | exact HB.out | apply below_alloc | apply pw_below_drewN | apply below_drew1) | exact HB.out)) hb); clear HB; have HB := n0_; clear n0_; (try clear hb); (try clear hb2); (try clear hk); (try clear hi)) | (go_at_call 19; (with_reducible refine (spec_DomainOk.calls k t102 t107 _ A12.out).mono ?_); rintro e w16 ⟨rfl, hb⟩; have n0_ := Aside0.mk (below_step (by repeat (first | (with_reducible first | exact HB.out | apply below_alloc | apply pw_below_drewN | apply below_drew1) | exact HB.out)) hb); clear HB; have HB := n0_; clear n0_; (try clear hb); (try clear hb2); (try clear hk); (try clear hi)))
          go_meet
          case rel => exact ⟨_, (true), (by first | rfl | (simp; done) | (simp [*]; done)), H', ⟨by first | omega | exact Nat.le_refl _⟩, ⟨by repeat (first | (with_reducible first | exact HB.out | apply below_alloc | apply pw_below_drewN | apply below_drew1) | exact HB.out)⟩⟩
        · rw [if_neg c13] at H
          have c13b0 : (t106 != t107) = false := by simpa using c13
          (try (have c13b1 : decide (t106 = t107) = true := by simpa using c13))
          (try (have c13b2 : (t106 == t107) = true := by simpa using c13))
          clear c13
          replace H := Option.bind_eq_some_iff.mp H
          obtain ⟨t108, A170, H⟩ := H
          replace H : (if t108 = true then ((impl_DomainOk.f k t103).bind fun t109 => (laws_FnDomain.j0 k t102 t103 t104 (!t109))) else (laws_FnDomain.j0 k t102 t103 t104 true)) = some r := H
          have A17 := Aside0.mk A170
          clear A170
          try (obtain rfl : t108 = t106 := Option.some.inj (A17.out.symm.trans A11.out))
          by_cases c18 : t108 = true
          · subst c18
            have H1 : ((impl_DomainOk.f k t103).bind fun t109 => (laws_FnDomain.j0 k t102 t103 t104 (!t109))) = some r := by rw [if_pos rfl] at H; exact H
            clear H
            have H := H1
            clear H1
            replace H := Option.bind_eq_some_iff.mp H
            obtain ⟨t109, A190, H⟩ := H
            replace H : (laws_FnDomain.j0 k t102 t103 t104 (!t109)) = some r := H
            have A19 := Aside0.mk A190
            clear A190
            have H' := Aside0.mk H
            clear H
            go_wp2_with (first | ((with_reducible refine gate_callee (f := 17) rfl ?_); refine goesL_ (some 21) rfl rfl Tryd.func17 (by kernel_rfl) rfl #[.string t102, .string t103] rfl (by (try simp only [List.map_toArray, List.map_cons, List.map_nil]); first | done | rfl | (simp only [List.length_drop, List.length_take]; rfl)) ?_; (with_reducible refine (spec_DomainIn.calls k t102 t103 t105 _ A8.out).mono ?_); rintro e w20 ⟨rfl, hb⟩; refine ⟨_, rfl, ?_⟩; have n0_ := Aside0.mk (below_step (by repeat (first | (with_reducible first | exact HB.out | apply below_alloc | apply pw_below_drewN | apply below_drew1) | exact HB.out)) hb); clear HB; have HB := n0_; clear n0_; (try clear hb); (try clear hb2); (try clear hk); (try clear hi)) | (go_at_call 18; (with_reducible refine (impl_DomainOk.calls k t102 _ _ ?side1 A11.out).mono ?_); (case side1 => first | (with_reducible exact HG.out) | ((with_reducible repeat (first | exact HG.out | apply GOK.drewN | apply GOK.drew)); done) | exact GOK.below HG.out (by repeat (first | (with_reducible first | exact HB.out | apply below_alloc | apply pw_below_drewN | apply below_drew1) | exact HB.out))); rintro e w21 ⟨rfl, hb⟩; have n0_ := Aside0.mk (below_step (by repeat (first | (with_reducible first | exact HB.out | apply below_alloc | apply pw_below_drewN | apply below_drew1) | exact HB.out)) hb); clear HB; have HB := n0_; clear n0_; (try clear hb); (try clear hb2); (try clear hk); (try clear hi)) | (go_at_call 19; (with_reducible refine (spec_DomainOk.calls k t102 t107 _ A12.out).mono ?_); rintro e w22 ⟨rfl, hb⟩; have n0_ := Aside0.mk (below_step (by repeat (first | (with_reducible first | exact HB.out | apply below_alloc | apply pw_below_drewN | apply below_drew1) | exact HB.out)) hb); clear HB; have HB := n0_; clear n0_; (try clear hb); (try clear hb2); (try clear hk); (try clear hi)) | (go_at_call 18; (with_reducible refine (impl_DomainOk.calls k t102 _ _ ?side1 A17.out).mono ?_); (case side1 => first | (with_reducible exact HG.out) | ((with_reducible repeat (first | exact HG.out | apply GOK.drewN | apply GOK.drew)); done) | exact GOK.below HG.out (by repeat (first | (with_reducible first | exact HB.out | apply below_alloc | apply pw_below_drewN | apply below_drew1) | exact HB.out))); rintro e w23 ⟨rfl, hb⟩; have n0_ := Aside0.mk (below_step (by repeat (first | (with_reducible first | exact HB.out | apply below_alloc | apply pw_below_drewN | apply below_drew1) | exact HB.out)) hb); clear HB; have HB := n0_; clear n0_; (try clear hb); (try clear hb2); (try clear hk); (try clear hi)) | (go_at_call 18; (with_reducible refine (impl_DomainOk.calls k t103 t109 _ ?side1 A19.out).mono ?_); (case side1 => first | (with_reducible exact HG.out) | ((with_reducible repeat (first | exact HG.out | apply GOK.drewN | apply GOK.drew)); done) | exact GOK.below HG.out (by repeat (first | (with_reducible first | exact HB.out | apply below_alloc | apply pw_below_drewN | apply below_drew1) | exact HB.out))); rintro e w24 ⟨rfl, hb⟩; have n0_ := Aside0.mk (below_step (by repeat (first | (with_reducible first | exact HB.out | apply below_alloc | apply pw_below_drewN | apply below_drew1) | exact HB.out)) hb); clear HB; have HB := n0_; clear n0_; (try clear hb); (try clear hb2); (try clear hk); (try clear hi)))
            go_meet
            case rel => exact ⟨_, (!t109), (by first | rfl | (simp; done) | (simp [*]; done)), H', ⟨by first | omega | exact Nat.le_refl _⟩, ⟨by repeat (first | (with_reducible first | exact HB.out | apply below_alloc | apply pw_below_drewN | apply below_drew1) | exact HB.out)⟩⟩
          · replace c18 := Bool.eq_false_iff.mpr c18
            subst c18
            have H1 : (laws_FnDomain.j0 k t102 t103 t104 true) = some r := by rw [if_neg (show ¬ (false = true) by decide)] at H; exact H
            clear H
            have H := H1
            clear H1
            have H' := Aside0.mk H
            clear H
            go_wp2_with (first | ((with_reducible refine gate_callee (f := 17) rfl ?_); refine goesL_ (some 21) rfl rfl Tryd.func17 (by kernel_rfl) rfl #[.string t102, .string t103] rfl (by (try simp only [List.map_toArray, List.map_cons, List.map_nil]); first | done | rfl | (simp only [List.length_drop, List.length_take]; rfl)) ?_; (with_reducible refine (spec_DomainIn.calls k t102 t103 t105 _ A8.out).mono ?_); rintro e w25 ⟨rfl, hb⟩; refine ⟨_, rfl, ?_⟩; have n0_ := Aside0.mk (below_step (by repeat (first | (with_reducible first | exact HB.out | apply below_alloc | apply pw_below_drewN | apply below_drew1) | exact HB.out)) hb); clear HB; have HB := n0_; clear n0_; (try clear hb); (try clear hb2); (try clear hk); (try clear hi)) | (go_at_call 18; (with_reducible refine (impl_DomainOk.calls k t102 _ _ ?side1 A11.out).mono ?_); (case side1 => first | (with_reducible exact HG.out) | ((with_reducible repeat (first | exact HG.out | apply GOK.drewN | apply GOK.drew)); done) | exact GOK.below HG.out (by repeat (first | (with_reducible first | exact HB.out | apply below_alloc | apply pw_below_drewN | apply below_drew1) | exact HB.out))); rintro e w26 ⟨rfl, hb⟩; have n0_ := Aside0.mk (below_step (by repeat (first | (with_reducible first | exact HB.out | apply below_alloc | apply pw_below_drewN | apply below_drew1) | exact HB.out)) hb); clear HB; have HB := n0_; clear n0_; (try clear hb); (try clear hb2); (try clear hk); (try clear hi)) | (go_at_call 19; (with_reducible refine (spec_DomainOk.calls k t102 t107 _ A12.out).mono ?_); rintro e w27 ⟨rfl, hb⟩; have n0_ := Aside0.mk (below_step (by repeat (first | (with_reducible first | exact HB.out | apply below_alloc | apply pw_below_drewN | apply below_drew1) | exact HB.out)) hb); clear HB; have HB := n0_; clear n0_; (try clear hb); (try clear hb2); (try clear hk); (try clear hi)) | (go_at_call 18; (with_reducible refine (impl_DomainOk.calls k t102 _ _ ?side1 A17.out).mono ?_); (case side1 => first | (with_reducible exact HG.out) | ((with_reducible repeat (first | exact HG.out | apply GOK.drewN | apply GOK.drew)); done) | exact GOK.below HG.out (by repeat (first | (with_reducible first | exact HB.out | apply below_alloc | apply pw_below_drewN | apply below_drew1) | exact HB.out))); rintro e w28 ⟨rfl, hb⟩; have n0_ := Aside0.mk (below_step (by repeat (first | (with_reducible first | exact HB.out | apply below_alloc | apply pw_below_drewN | apply below_drew1) | exact HB.out)) hb); clear HB; have HB := n0_; clear n0_; (try clear hb); (try clear hb2); (try clear hk); (try clear hi)))
            go_meet
            case rel => exact ⟨_, (true), (by first | rfl | (simp; done) | (simp [*]; done)), H', ⟨by first | omega | exact Nat.le_refl _⟩, ⟨by repeat (first | (with_reducible first | exact HB.out | apply below_alloc | apply pw_below_drewN | apply below_drew1) | exact HB.out)⟩⟩
    case rest =>
      clear HC5
      try clear c1
      try clear c2
      try clear c2b0
      try clear c2b1
      try clear p2
      try clear c3
      try clear c9
      try clear c9b0
      try clear c9b1
      try clear c9b2
      try clear c13
      try clear c13b0
      try clear c13b1
      try clear c13b2
      try clear c15
      try clear c16
      try clear c17
      try clear c18
      obtain ⟨kq, x39_4, rfl, HA, HJ4, HB⟩ := hcut
      cases kq with
      | zero => exact absurd HA.out (by simp [laws_FnDomain.j0])
      | succ kj4 =>
        have H := HA.out
        clear HA
        simp only [laws_FnDomain.j0] at H
        by_cases c29 : x39_4 = true
        · subst c29
          have H1 : ((spec_DomainIn.f kj4 t102 t103).bind fun t110 => (if (t104 == t110) = true then ((impl_DomainOk.f kj4 t102).bind fun t111 => ((spec_DomainOk.f kj4 t102).bind fun t112 => (some (t111 == t112)))) else (some false))) = some r := by rw [if_pos rfl] at H; exact H
          clear H
          have H := H1
          clear H1
          replace H := Option.bind_eq_some_iff.mp H
          obtain ⟨t110, A300, H⟩ := H
          replace H : (if (t104 == t110) = true then ((impl_DomainOk.f kj4 t102).bind fun t111 => ((spec_DomainOk.f kj4 t102).bind fun t112 => (some (t111 == t112)))) else (some false)) = some r := H
          have A30 := Aside0.mk A300
          clear A300
          by_cases c31 : (t104 == t110) = true
          · rw [if_pos c31] at H
            have c31b0 : (t104 == t110) = true := c31
            (try (have c31b1 : decide (t104 = t110) = true := by simpa using c31))
            (try (have c31b2 : (t104 == t110) = true := by simpa using c31))
            clear c31
            replace H := Option.bind_eq_some_iff.mp H
            obtain ⟨t111, A320, H⟩ := H
            replace H : ((spec_DomainOk.f kj4 t102).bind fun t112 => (some (t111 == t112))) = some r := H
            have A32 := Aside0.mk A320
            clear A320
            replace H := Option.bind_eq_some_iff.mp H
            obtain ⟨t112, A330, H⟩ := H
            replace H : (some (t111 == t112)) = some r := H
            have A33 := Aside0.mk A330
            clear A330
            obtain rfl := Option.some.inj H
            go_wp2_with (first | ((with_reducible refine gate_callee (f := 17) rfl ?_); refine goesL_ (some 43) rfl rfl Tryd.func17 (by kernel_rfl) rfl #[.string t102, .string t103] rfl (by (try simp only [List.map_toArray, List.map_cons, List.map_nil]); first | done | rfl | (simp only [List.length_drop, List.length_take]; rfl)) ?_; (with_reducible refine (spec_DomainIn.calls kj4 t102 t103 t110 _ A30.out).mono ?_); rintro e w34 ⟨rfl, hb⟩; refine ⟨_, rfl, ?_⟩; have n0_ := Aside0.mk (below_step (by repeat (first | (with_reducible first | exact HB.out | apply below_alloc | apply pw_below_drewN | apply below_drew1) | exact HB.out)) hb); clear HB; have HB := n0_; clear n0_; (try clear hb); (try clear hb2); (try clear hk); (try clear hi)) | (go_at_call 18; (with_reducible refine (impl_DomainOk.calls kj4 t102 t111 _ ?side1 A32.out).mono ?_); (case side1 => first | (with_reducible exact HG.out) | ((with_reducible repeat (first | exact HG.out | apply GOK.drewN | apply GOK.drew)); done) | exact GOK.below HG.out (by repeat (first | (with_reducible first | exact HB.out | apply below_alloc | apply pw_below_drewN | apply below_drew1) | exact HB.out))); rintro e w35 ⟨rfl, hb⟩; have n0_ := Aside0.mk (below_step (by repeat (first | (with_reducible first | exact HB.out | apply below_alloc | apply pw_below_drewN | apply below_drew1) | exact HB.out)) hb); clear HB; have HB := n0_; clear n0_; (try clear hb); (try clear hb2); (try clear hk); (try clear hi)) | (go_at_call 19; (with_reducible refine (spec_DomainOk.calls kj4 t102 t112 _ A33.out).mono ?_); rintro e w36 ⟨rfl, hb⟩; have n0_ := Aside0.mk (below_step (by repeat (first | (with_reducible first | exact HB.out | apply below_alloc | apply pw_below_drewN | apply below_drew1) | exact HB.out)) hb); clear HB; have HB := n0_; clear n0_; (try clear hb); (try clear hb2); (try clear hk); (try clear hi)))
            go_ret
            exact ⟨by first | rfl | (simp [errW_none, errW_some] <;> rfl) | (simp [*, errW_none, errW_some] <;> rfl), by repeat (first | (with_reducible first | exact HB.out | apply below_alloc | apply pw_below_drewN | apply below_drew1) | exact HB.out)⟩
          · rw [if_neg c31] at H
            have c31b0 : (t104 == t110) = false := by simpa using c31
            (try (have c31b1 : decide (t104 = t110) = false := by simpa using c31))
            (try (have c31b2 : (t104 == t110) = false := by simpa using c31))
            (try (have c31b3 : ¬ (t104 = t110) := by simpa using c31))
            clear c31
            obtain rfl := Option.some.inj H
            go_wp2_with (first | ((with_reducible refine gate_callee (f := 17) rfl ?_); refine goesL_ (some 43) rfl rfl Tryd.func17 (by kernel_rfl) rfl #[.string t102, .string t103] rfl (by (try simp only [List.map_toArray, List.map_cons, List.map_nil]); first | done | rfl | (simp only [List.length_drop, List.length_take]; rfl)) ?_; (with_reducible refine (spec_DomainIn.calls kj4 t102 t103 t110 _ A30.out).mono ?_); rintro e w37 ⟨rfl, hb⟩; refine ⟨_, rfl, ?_⟩; have n0_ := Aside0.mk (below_step (by repeat (first | (with_reducible first | exact HB.out | apply below_alloc | apply pw_below_drewN | apply below_drew1) | exact HB.out)) hb); clear HB; have HB := n0_; clear n0_; (try clear hb); (try clear hb2); (try clear hk); (try clear hi)))
            go_ret
            exact ⟨by first | rfl | (simp [errW_none, errW_some] <;> rfl) | (simp [*, errW_none, errW_some] <;> rfl), by repeat (first | (with_reducible first | exact HB.out | apply below_alloc | apply pw_below_drewN | apply below_drew1) | exact HB.out)⟩
        · replace c29 := Bool.eq_false_iff.mpr c29
          subst c29
          have H1 : (if 2 + t102.size ≤ 9223372036854775807 then ((impl_DomainIn.f kj4 t102 t102).bind fun t113 => (if t113 = true then ((impl_DomainOk.f kj4 ((⟨#[120, 46]⟩ : ByteArray) ++ t102)).bind fun t114 => (if t114 = true then ((impl_DomainIn.f kj4 ((⟨#[120, 46]⟩ : ByteArray) ++ t102) t102).bind fun t115 => (if t115 = true then (if t104 = true then ((impl_DomainIn.f kj4 ((⟨#[120, 46]⟩ : ByteArray) ++ t102) t103).bind fun t116 => (if t116 = true then ((impl_DomainIn.f kj4 t102 ((⟨#[120, 46]⟩ : ByteArray) ++ t102)).bind fun t117 => (if t117 = true then (some false) else (some (decide ((t102.size : Int) ≥ (t103.size : Int)))))) else (some false))) else ((impl_DomainIn.f kj4 t102 ((⟨#[120, 46]⟩ : ByteArray) ++ t102)).bind fun t118 => (if t118 = true then (some false) else (some true)))) else (some false))) else ((impl_DomainIn.f kj4 t102 ((⟨#[120, 46]⟩ : ByteArray) ++ t102)).bind fun t119 => (if t119 = true then (some false) else (if t104 = true then (some (decide ((t102.size : Int) ≥ (t103.size : Int)))) else (some true)))))) else (some false))) else (none)) = some r := by rw [if_neg (show ¬ (false = true) by decide)] at H; exact H
          clear H
          have H := H1
          clear H1
          by_cases c38 : 2 + t102.size ≤ 9223372036854775807
          · rw [if_pos c38] at H
            have c38b0 := eq_true c38
            have c38b1 : decide (2 + t102.size ≤ 9223372036854775807) = true := decide_eq_true c38
            try have c38b2 : (9223372036854775807 < 2 + t102.size) = False := eq_false (Nat.not_lt.2 c38)
            replace H := Option.bind_eq_some_iff.mp H
            obtain ⟨t113, A390, H⟩ := H
            replace H : (if t113 = true then ((impl_DomainOk.f kj4 ((⟨#[120, 46]⟩ : ByteArray) ++ t102)).bind fun t114 => (if t114 = true then ((impl_DomainIn.f kj4 ((⟨#[120, 46]⟩ : ByteArray) ++ t102) t102).bind fun t115 => (if t115 = true then (if t104 = true then ((impl_DomainIn.f kj4 ((⟨#[120, 46]⟩ : ByteArray) ++ t102) t103).bind fun t116 => (if t116 = true then ((impl_DomainIn.f kj4 t102 ((⟨#[120, 46]⟩ : ByteArray) ++ t102)).bind fun t117 => (if t117 = true then (some false) else (some (decide ((t102.size : Int) ≥ (t103.size : Int)))))) else (some false))) else ((impl_DomainIn.f kj4 t102 ((⟨#[120, 46]⟩ : ByteArray) ++ t102)).bind fun t118 => (if t118 = true then (some false) else (some true)))) else (some false))) else ((impl_DomainIn.f kj4 t102 ((⟨#[120, 46]⟩ : ByteArray) ++ t102)).bind fun t119 => (if t119 = true then (some false) else (if t104 = true then (some (decide ((t102.size : Int) ≥ (t103.size : Int)))) else (some true)))))) else (some false)) = some r := H
            have A39 := Aside0.mk A390
            clear A390
            by_cases c40 : t113 = true
            · subst c40
              have H1 : ((impl_DomainOk.f kj4 ((⟨#[120, 46]⟩ : ByteArray) ++ t102)).bind fun t114 => (if t114 = true then ((impl_DomainIn.f kj4 ((⟨#[120, 46]⟩ : ByteArray) ++ t102) t102).bind fun t115 => (if t115 = true then (if t104 = true then ((impl_DomainIn.f kj4 ((⟨#[120, 46]⟩ : ByteArray) ++ t102) t103).bind fun t116 => (if t116 = true then ((impl_DomainIn.f kj4 t102 ((⟨#[120, 46]⟩ : ByteArray) ++ t102)).bind fun t117 => (if t117 = true then (some false) else (some (decide ((t102.size : Int) ≥ (t103.size : Int)))))) else (some false))) else ((impl_DomainIn.f kj4 t102 ((⟨#[120, 46]⟩ : ByteArray) ++ t102)).bind fun t118 => (if t118 = true then (some false) else (some true)))) else (some false))) else ((impl_DomainIn.f kj4 t102 ((⟨#[120, 46]⟩ : ByteArray) ++ t102)).bind fun t119 => (if t119 = true then (some false) else (if t104 = true then (some (decide ((t102.size : Int) ≥ (t103.size : Int)))) else (some true)))))) = some r := by rw [if_pos rfl] at H; exact H
              clear H
              have H := H1
              clear H1
              replace H := Option.bind_eq_some_iff.mp H
              obtain ⟨t114, A410, H⟩ := H
              replace H : (if t114 = true then ((impl_DomainIn.f kj4 ((⟨#[120, 46]⟩ : ByteArray) ++ t102) t102).bind fun t115 => (if t115 = true then (if t104 = true then ((impl_DomainIn.f kj4 ((⟨#[120, 46]⟩ : ByteArray) ++ t102) t103).bind fun t116 => (if t116 = true then ((impl_DomainIn.f kj4 t102 ((⟨#[120, 46]⟩ : ByteArray) ++ t102)).bind fun t117 => (if t117 = true then (some false) else (some (decide ((t102.size : Int) ≥ (t103.size : Int)))))) else (some false))) else ((impl_DomainIn.f kj4 t102 ((⟨#[120, 46]⟩ : ByteArray) ++ t102)).bind fun t118 => (if t118 = true then (some false) else (some true)))) else (some false))) else ((impl_DomainIn.f kj4 t102 ((⟨#[120, 46]⟩ : ByteArray) ++ t102)).bind fun t119 => (if t119 = true then (some false) else (if t104 = true then (some (decide ((t102.size : Int) ≥ (t103.size : Int)))) else (some true))))) = some r := H
              have A41 := Aside0.mk A410
              clear A410
              by_cases c42 : t114 = true
              · subst c42
                have H1 : ((impl_DomainIn.f kj4 ((⟨#[120, 46]⟩ : ByteArray) ++ t102) t102).bind fun t115 => (if t115 = true then (if t104 = true then ((impl_DomainIn.f kj4 ((⟨#[120, 46]⟩ : ByteArray) ++ t102) t103).bind fun t116 => (if t116 = true then ((impl_DomainIn.f kj4 t102 ((⟨#[120, 46]⟩ : ByteArray) ++ t102)).bind fun t117 => (if t117 = true then (some false) else (some (decide ((t102.size : Int) ≥ (t103.size : Int)))))) else (some false))) else ((impl_DomainIn.f kj4 t102 ((⟨#[120, 46]⟩ : ByteArray) ++ t102)).bind fun t118 => (if t118 = true then (some false) else (some true)))) else (some false))) = some r := by rw [if_pos rfl] at H; exact H
                clear H
                have H := H1
                clear H1
                replace H := Option.bind_eq_some_iff.mp H
                obtain ⟨t115, A430, H⟩ := H
                replace H : (if t115 = true then (if t104 = true then ((impl_DomainIn.f kj4 ((⟨#[120, 46]⟩ : ByteArray) ++ t102) t103).bind fun t116 => (if t116 = true then ((impl_DomainIn.f kj4 t102 ((⟨#[120, 46]⟩ : ByteArray) ++ t102)).bind fun t117 => (if t117 = true then (some false) else (some (decide ((t102.size : Int) ≥ (t103.size : Int)))))) else (some false))) else ((impl_DomainIn.f kj4 t102 ((⟨#[120, 46]⟩ : ByteArray) ++ t102)).bind fun t118 => (if t118 = true then (some false) else (some true)))) else (some false)) = some r := H
                have A43 := Aside0.mk A430
                clear A430
                by_cases c44 : t115 = true
                · subst c44
                  have H1 : (if t104 = true then ((impl_DomainIn.f kj4 ((⟨#[120, 46]⟩ : ByteArray) ++ t102) t103).bind fun t116 => (if t116 = true then ((impl_DomainIn.f kj4 t102 ((⟨#[120, 46]⟩ : ByteArray) ++ t102)).bind fun t117 => (if t117 = true then (some false) else (some (decide ((t102.size : Int) ≥ (t103.size : Int)))))) else (some false))) else ((impl_DomainIn.f kj4 t102 ((⟨#[120, 46]⟩ : ByteArray) ++ t102)).bind fun t118 => (if t118 = true then (some false) else (some true)))) = some r := by rw [if_pos rfl] at H; exact H
                  clear H
                  have H := H1
                  clear H1
                  by_cases c45 : t104 = true
                  · subst c45
                    have H1 : ((impl_DomainIn.f kj4 ((⟨#[120, 46]⟩ : ByteArray) ++ t102) t103).bind fun t116 => (if t116 = true then ((impl_DomainIn.f kj4 t102 ((⟨#[120, 46]⟩ : ByteArray) ++ t102)).bind fun t117 => (if t117 = true then (some false) else (some (decide ((t102.size : Int) ≥ (t103.size : Int)))))) else (some false))) = some r := by rw [if_pos rfl] at H; exact H
                    clear H
                    have H := H1
                    clear H1
                    replace H := Option.bind_eq_some_iff.mp H
                    obtain ⟨t116, A460, H⟩ := H
                    replace H : (if t116 = true then ((impl_DomainIn.f kj4 t102 ((⟨#[120, 46]⟩ : ByteArray) ++ t102)).bind fun t117 => (if t117 = true then (some false) else (some (decide ((t102.size : Int) ≥ (t103.size : Int)))))) else (some false)) = some r := H
                    have A46 := Aside0.mk A460
                    clear A460
                    by_cases c47 : t116 = true
                    · subst c47
                      have H1 : ((impl_DomainIn.f kj4 t102 ((⟨#[120, 46]⟩ : ByteArray) ++ t102)).bind fun t117 => (if t117 = true then (some false) else (some (decide ((t102.size : Int) ≥ (t103.size : Int)))))) = some r := by rw [if_pos rfl] at H; exact H
                      clear H
                      have H := H1
                      clear H1
                      replace H := Option.bind_eq_some_iff.mp H
                      obtain ⟨t117, A480, H⟩ := H
                      replace H : (if t117 = true then (some false) else (some (decide ((t102.size : Int) ≥ (t103.size : Int))))) = some r := H
                      have A48 := Aside0.mk A480
                      clear A480
                      by_cases c49 : t117 = true
                      · subst c49
                        have H1 : (some false) = some r := by rw [if_pos rfl] at H; exact H
                        clear H
                        have H := H1
                        clear H1
                        obtain rfl := Option.some.inj H
                        go_wp2_with (first | ((with_reducible refine gate_callee (f := 16) rfl ?_); refine goesL_ (some 56) rfl rfl Tryd.func16 (by kernel_rfl) rfl #[.string t102, .string t102] rfl (by (try simp only [List.map_toArray, List.map_cons, List.map_nil]); first | done | rfl | (simp only [List.length_drop, List.length_take]; rfl)) ?_; (with_reducible refine (impl_DomainIn.calls kj4 t102 t102 true _ ?side1 A39.out).mono ?_); (case side1 => first | (with_reducible exact HG.out) | ((with_reducible repeat (first | exact HG.out | apply GOK.drewN | apply GOK.drew)); done) | exact GOK.below HG.out (by repeat (first | (with_reducible first | exact HB.out | apply below_alloc | apply pw_below_drewN | apply below_drew1) | exact HB.out))); rintro e w50 ⟨rfl, hb⟩; refine ⟨_, rfl, ?_⟩; have n0_ := Aside0.mk (below_step (by repeat (first | (with_reducible first | exact HB.out | apply below_alloc | apply pw_below_drewN | apply below_drew1) | exact HB.out)) hb); clear HB; have HB := n0_; clear n0_; (try clear hb); (try clear hb2); (try clear hk); (try clear hi)) | (go_at_call 18; (with_reducible refine (impl_DomainOk.calls kj4 ((⟨#[120, 46]⟩ : ByteArray) ++ t102) true _ ?side1 A41.out).mono ?_); (case side1 => first | (with_reducible exact HG.out) | ((with_reducible repeat (first | exact HG.out | apply GOK.drewN | apply GOK.drew)); done) | exact GOK.below HG.out (by repeat (first | (with_reducible first | exact HB.out | apply below_alloc | apply pw_below_drewN | apply below_drew1) | exact HB.out))); rintro e w51 ⟨rfl, hb⟩; have n0_ := Aside0.mk (below_step (by repeat (first | (with_reducible first | exact HB.out | apply below_alloc | apply pw_below_drewN | apply below_drew1) | exact HB.out)) hb); clear HB; have HB := n0_; clear n0_; (try clear hb); (try clear hb2); (try clear hk); (try clear hi)) | (go_at_call 16; (with_reducible refine (impl_DomainIn.calls kj4 ((⟨#[120, 46]⟩ : ByteArray) ++ t102) t102 true _ ?side1 A43.out).mono ?_); (case side1 => first | (with_reducible exact HG.out) | ((with_reducible repeat (first | exact HG.out | apply GOK.drewN | apply GOK.drew)); done) | exact GOK.below HG.out (by repeat (first | (with_reducible first | exact HB.out | apply below_alloc | apply pw_below_drewN | apply below_drew1) | exact HB.out))); rintro e w52 ⟨rfl, hb⟩; have n0_ := Aside0.mk (below_step (by repeat (first | (with_reducible first | exact HB.out | apply below_alloc | apply pw_below_drewN | apply below_drew1) | exact HB.out)) hb); clear HB; have HB := n0_; clear n0_; (try clear hb); (try clear hb2); (try clear hk); (try clear hi)) | (go_at_call 16; (with_reducible refine (impl_DomainIn.calls kj4 ((⟨#[120, 46]⟩ : ByteArray) ++ t102) t103 true _ ?side1 A46.out).mono ?_); (case side1 => first | (with_reducible exact HG.out) | ((with_reducible repeat (first | exact HG.out | apply GOK.drewN | apply GOK.drew)); done) | exact GOK.below HG.out (by repeat (first | (with_reducible first | exact HB.out | apply below_alloc | apply pw_below_drewN | apply below_drew1) | exact HB.out))); rintro e w53 ⟨rfl, hb⟩; have n0_ := Aside0.mk (below_step (by repeat (first | (with_reducible first | exact HB.out | apply below_alloc | apply pw_below_drewN | apply below_drew1) | exact HB.out)) hb); clear HB; have HB := n0_; clear n0_; (try clear hb); (try clear hb2); (try clear hk); (try clear hi)) | (go_at_call 16; (with_reducible refine (impl_DomainIn.calls kj4 t102 ((⟨#[120, 46]⟩ : ByteArray) ++ t102) true _ ?side1 A48.out).mono ?_); (case side1 => first | (with_reducible exact HG.out) | ((with_reducible repeat (first | exact HG.out | apply GOK.drewN | apply GOK.drew)); done) | exact GOK.below HG.out (by repeat (first | (with_reducible first | exact HB.out | apply below_alloc | apply pw_below_drewN | apply below_drew1) | exact HB.out))); rintro e w54 ⟨rfl, hb⟩; have n0_ := Aside0.mk (below_step (by repeat (first | (with_reducible first | exact HB.out | apply below_alloc | apply pw_below_drewN | apply below_drew1) | exact HB.out)) hb); clear HB; have HB := n0_; clear n0_; (try clear hb); (try clear hb2); (try clear hk); (try clear hi)))
                        go_ret
                        exact ⟨by first | rfl | (simp [errW_none, errW_some] <;> rfl) | (simp [*, errW_none, errW_some] <;> rfl), by repeat (first | (with_reducible first | exact HB.out | apply below_alloc | apply pw_below_drewN | apply below_drew1) | exact HB.out)⟩
                      · replace c49 := Bool.eq_false_iff.mpr c49
                        subst c49
                        have H1 : (some (decide ((t102.size : Int) ≥ (t103.size : Int)))) = some r := by rw [if_neg (show ¬ (false = true) by decide)] at H; exact H
                        clear H
                        have H := H1
                        clear H1
                        obtain rfl := Option.some.inj H
                        go_wp2_with (first | ((with_reducible refine gate_callee (f := 16) rfl ?_); refine goesL_ (some 56) rfl rfl Tryd.func16 (by kernel_rfl) rfl #[.string t102, .string t102] rfl (by (try simp only [List.map_toArray, List.map_cons, List.map_nil]); first | done | rfl | (simp only [List.length_drop, List.length_take]; rfl)) ?_; (with_reducible refine (impl_DomainIn.calls kj4 t102 t102 true _ ?side1 A39.out).mono ?_); (case side1 => first | (with_reducible exact HG.out) | ((with_reducible repeat (first | exact HG.out | apply GOK.drewN | apply GOK.drew)); done) | exact GOK.below HG.out (by repeat (first | (with_reducible first | exact HB.out | apply below_alloc | apply pw_below_drewN | apply below_drew1) | exact HB.out))); rintro e w55 ⟨rfl, hb⟩; refine ⟨_, rfl, ?_⟩; have n0_ := Aside0.mk (below_step (by repeat (first | (with_reducible first | exact HB.out | apply below_alloc | apply pw_below_drewN | apply below_drew1) | exact HB.out)) hb); clear HB; have HB := n0_; clear n0_; (try clear hb); (try clear hb2); (try clear hk); (try clear hi)) | (go_at_call 18; (with_reducible refine (impl_DomainOk.calls kj4 ((⟨#[120, 46]⟩ : ByteArray) ++ t102) true _ ?side1 A41.out).mono ?_); (case side1 => first | (with_reducible exact HG.out) | ((with_reducible repeat (first | exact HG.out | apply GOK.drewN | apply GOK.drew)); done) | exact GOK.below HG.out (by repeat (first | (with_reducible first | exact HB.out | apply below_alloc | apply pw_below_drewN | apply below_drew1) | exact HB.out))); rintro e w56 ⟨rfl, hb⟩; have n0_ := Aside0.mk (below_step (by repeat (first | (with_reducible first | exact HB.out | apply below_alloc | apply pw_below_drewN | apply below_drew1) | exact HB.out)) hb); clear HB; have HB := n0_; clear n0_; (try clear hb); (try clear hb2); (try clear hk); (try clear hi)) | (go_at_call 16; (with_reducible refine (impl_DomainIn.calls kj4 ((⟨#[120, 46]⟩ : ByteArray) ++ t102) t102 true _ ?side1 A43.out).mono ?_); (case side1 => first | (with_reducible exact HG.out) | ((with_reducible repeat (first | exact HG.out | apply GOK.drewN | apply GOK.drew)); done) | exact GOK.below HG.out (by repeat (first | (with_reducible first | exact HB.out | apply below_alloc | apply pw_below_drewN | apply below_drew1) | exact HB.out))); rintro e w57 ⟨rfl, hb⟩; have n0_ := Aside0.mk (below_step (by repeat (first | (with_reducible first | exact HB.out | apply below_alloc | apply pw_below_drewN | apply below_drew1) | exact HB.out)) hb); clear HB; have HB := n0_; clear n0_; (try clear hb); (try clear hb2); (try clear hk); (try clear hi)) | (go_at_call 16; (with_reducible refine (impl_DomainIn.calls kj4 ((⟨#[120, 46]⟩ : ByteArray) ++ t102) t103 true _ ?side1 A46.out).mono ?_); (case side1 => first | (with_reducible exact HG.out) | ((with_reducible repeat (first | exact HG.out | apply GOK.drewN | apply GOK.drew)); done) | exact GOK.below HG.out (by repeat (first | (with_reducible first | exact HB.out | apply below_alloc | apply pw_below_drewN | apply below_drew1) | exact HB.out))); rintro e w58 ⟨rfl, hb⟩; have n0_ := Aside0.mk (below_step (by repeat (first | (with_reducible first | exact HB.out | apply below_alloc | apply pw_below_drewN | apply below_drew1) | exact HB.out)) hb); clear HB; have HB := n0_; clear n0_; (try clear hb); (try clear hb2); (try clear hk); (try clear hi)) | (go_at_call 16; (with_reducible refine (impl_DomainIn.calls kj4 t102 ((⟨#[120, 46]⟩ : ByteArray) ++ t102) false _ ?side1 A48.out).mono ?_); (case side1 => first | (with_reducible exact HG.out) | ((with_reducible repeat (first | exact HG.out | apply GOK.drewN | apply GOK.drew)); done) | exact GOK.below HG.out (by repeat (first | (with_reducible first | exact HB.out | apply below_alloc | apply pw_below_drewN | apply below_drew1) | exact HB.out))); rintro e w59 ⟨rfl, hb⟩; have n0_ := Aside0.mk (below_step (by repeat (first | (with_reducible first | exact HB.out | apply below_alloc | apply pw_below_drewN | apply below_drew1) | exact HB.out)) hb); clear HB; have HB := n0_; clear n0_; (try clear hb); (try clear hb2); (try clear hk); (try clear hi)))
                        go_ret
                        exact ⟨by first | rfl | (simp [errW_none, errW_some] <;> rfl) | (simp [*, errW_none, errW_some] <;> rfl), by repeat (first | (with_reducible first | exact HB.out | apply below_alloc | apply pw_below_drewN | apply below_drew1) | exact HB.out)⟩
                    · replace c47 := Bool.eq_false_iff.mpr c47
                      subst c47
                      have H1 : (some false) = some r := by rw [if_neg (show ¬ (false = true) by decide)] at H; exact H
                      clear H
                      have H := H1
                      clear H1
                      obtain rfl := Option.some.inj H
                      go_wp2_with (first | ((with_reducible refine gate_callee (f := 16) rfl ?_); refine goesL_ (some 56) rfl rfl Tryd.func16 (by kernel_rfl) rfl #[.string t102, .string t102] rfl (by (try simp only [List.map_toArray, List.map_cons, List.map_nil]); first | done | rfl | (simp only [List.length_drop, List.length_take]; rfl)) ?_; (with_reducible refine (impl_DomainIn.calls kj4 t102 t102 true _ ?side1 A39.out).mono ?_); (case side1 => first | (with_reducible exact HG.out) | ((with_reducible repeat (first | exact HG.out | apply GOK.drewN | apply GOK.drew)); done) | exact GOK.below HG.out (by repeat (first | (with_reducible first | exact HB.out | apply below_alloc | apply pw_below_drewN | apply below_drew1) | exact HB.out))); rintro e w60 ⟨rfl, hb⟩; refine ⟨_, rfl, ?_⟩; have n0_ := Aside0.mk (below_step (by repeat (first | (with_reducible first | exact HB.out | apply below_alloc | apply pw_below_drewN | apply below_drew1) | exact HB.out)) hb); clear HB; have HB := n0_; clear n0_; (try clear hb); (try clear hb2); (try clear hk); (try clear hi)) | (go_at_call 18; (with_reducible refine (impl_DomainOk.calls kj4 ((⟨#[120, 46]⟩ : ByteArray) ++ t102) true _ ?side1 A41.out).mono ?_); (case side1 => first | (with_reducible exact HG.out) | ((with_reducible repeat (first | exact HG.out | apply GOK.drewN | apply GOK.drew)); done) | exact GOK.below HG.out (by repeat (first | (with_reducible first | exact HB.out | apply below_alloc | apply pw_below_drewN | apply below_drew1) | exact HB.out))); rintro e w61 ⟨rfl, hb⟩; have n0_ := Aside0.mk (below_step (by repeat (first | (with_reducible first | exact HB.out | apply below_alloc | apply pw_below_drewN | apply below_drew1) | exact HB.out)) hb); clear HB; have HB := n0_; clear n0_; (try clear hb); (try clear hb2); (try clear hk); (try clear hi)) | (go_at_call 16; (with_reducible refine (impl_DomainIn.calls kj4 ((⟨#[120, 46]⟩ : ByteArray) ++ t102) t102 true _ ?side1 A43.out).mono ?_); (case side1 => first | (with_reducible exact HG.out) | ((with_reducible repeat (first | exact HG.out | apply GOK.drewN | apply GOK.drew)); done) | exact GOK.below HG.out (by repeat (first | (with_reducible first | exact HB.out | apply below_alloc | apply pw_below_drewN | apply below_drew1) | exact HB.out))); rintro e w62 ⟨rfl, hb⟩; have n0_ := Aside0.mk (below_step (by repeat (first | (with_reducible first | exact HB.out | apply below_alloc | apply pw_below_drewN | apply below_drew1) | exact HB.out)) hb); clear HB; have HB := n0_; clear n0_; (try clear hb); (try clear hb2); (try clear hk); (try clear hi)) | (go_at_call 16; (with_reducible refine (impl_DomainIn.calls kj4 ((⟨#[120, 46]⟩ : ByteArray) ++ t102) t103 false _ ?side1 A46.out).mono ?_); (case side1 => first | (with_reducible exact HG.out) | ((with_reducible repeat (first | exact HG.out | apply GOK.drewN | apply GOK.drew)); done) | exact GOK.below HG.out (by repeat (first | (with_reducible first | exact HB.out | apply below_alloc | apply pw_below_drewN | apply below_drew1) | exact HB.out))); rintro e w63 ⟨rfl, hb⟩; have n0_ := Aside0.mk (below_step (by repeat (first | (with_reducible first | exact HB.out | apply below_alloc | apply pw_below_drewN | apply below_drew1) | exact HB.out)) hb); clear HB; have HB := n0_; clear n0_; (try clear hb); (try clear hb2); (try clear hk); (try clear hi)))
                      go_ret
                      exact ⟨by first | rfl | (simp [errW_none, errW_some] <;> rfl) | (simp [*, errW_none, errW_some] <;> rfl), by repeat (first | (with_reducible first | exact HB.out | apply below_alloc | apply pw_below_drewN | apply below_drew1) | exact HB.out)⟩
                  · replace c45 := Bool.eq_false_iff.mpr c45
                    subst c45
                    have H1 : ((impl_DomainIn.f kj4 t102 ((⟨#[120, 46]⟩ : ByteArray) ++ t102)).bind fun t118 => (if t118 = true then (some false) else (some true))) = some r := by rw [if_neg (show ¬ (false = true) by decide)] at H; exact H
                    clear H
                    have H := H1
                    clear H1
                    replace H := Option.bind_eq_some_iff.mp H
                    obtain ⟨t118, A640, H⟩ := H
                    replace H : (if t118 = true then (some false) else (some true)) = some r := H
                    have A64 := Aside0.mk A640
                    clear A640
                    by_cases c65 : t118 = true
                    · subst c65
                      have H1 : (some false) = some r := by rw [if_pos rfl] at H; exact H
                      clear H
                      have H := H1
                      clear H1
                      obtain rfl := Option.some.inj H
                      go_wp2_with (first | ((with_reducible refine gate_callee (f := 16) rfl ?_); refine goesL_ (some 56) rfl rfl Tryd.func16 (by kernel_rfl) rfl #[.string t102, .string t102] rfl (by (try simp only [List.map_toArray, List.map_cons, List.map_nil]); first | done | rfl | (simp only [List.length_drop, List.length_take]; rfl)) ?_; (with_reducible refine (impl_DomainIn.calls kj4 t102 t102 true _ ?side1 A39.out).mono ?_); (case side1 => first | (with_reducible exact HG.out) | ((with_reducible repeat (first | exact HG.out | apply GOK.drewN | apply GOK.drew)); done) | exact GOK.below HG.out (by repeat (first | (with_reducible first | exact HB.out | apply below_alloc | apply pw_below_drewN | apply below_drew1) | exact HB.out))); rintro e w66 ⟨rfl, hb⟩; refine ⟨_, rfl, ?_⟩; have n0_ := Aside0.mk (below_step (by repeat (first | (with_reducible first | exact HB.out | apply below_alloc | apply pw_below_drewN | apply below_drew1) | exact HB.out)) hb); clear HB; have HB := n0_; clear n0_; (try clear hb); (try clear hb2); (try clear hk); (try clear hi)) | (go_at_call 18; (with_reducible refine (impl_DomainOk.calls kj4 ((⟨#[120, 46]⟩ : ByteArray) ++ t102) true _ ?side1 A41.out).mono ?_); (case side1 => first | (with_reducible exact HG.out) | ((with_reducible repeat (first | exact HG.out | apply GOK.drewN | apply GOK.drew)); done) | exact GOK.below HG.out (by repeat (first | (with_reducible first | exact HB.out | apply below_alloc | apply pw_below_drewN | apply below_drew1) | exact HB.out))); rintro e w67 ⟨rfl, hb⟩; have n0_ := Aside0.mk (below_step (by repeat (first | (with_reducible first | exact HB.out | apply below_alloc | apply pw_below_drewN | apply below_drew1) | exact HB.out)) hb); clear HB; have HB := n0_; clear n0_; (try clear hb); (try clear hb2); (try clear hk); (try clear hi)) | (go_at_call 16; (with_reducible refine (impl_DomainIn.calls kj4 ((⟨#[120, 46]⟩ : ByteArray) ++ t102) t102 true _ ?side1 A43.out).mono ?_); (case side1 => first | (with_reducible exact HG.out) | ((with_reducible repeat (first | exact HG.out | apply GOK.drewN | apply GOK.drew)); done) | exact GOK.below HG.out (by repeat (first | (with_reducible first | exact HB.out | apply below_alloc | apply pw_below_drewN | apply below_drew1) | exact HB.out))); rintro e w68 ⟨rfl, hb⟩; have n0_ := Aside0.mk (below_step (by repeat (first | (with_reducible first | exact HB.out | apply below_alloc | apply pw_below_drewN | apply below_drew1) | exact HB.out)) hb); clear HB; have HB := n0_; clear n0_; (try clear hb); (try clear hb2); (try clear hk); (try clear hi)) | (go_at_call 16; (with_reducible refine (impl_DomainIn.calls kj4 t102 ((⟨#[120, 46]⟩ : ByteArray) ++ t102) true _ ?side1 A64.out).mono ?_); (case side1 => first | (with_reducible exact HG.out) | ((with_reducible repeat (first | exact HG.out | apply GOK.drewN | apply GOK.drew)); done) | exact GOK.below HG.out (by repeat (first | (with_reducible first | exact HB.out | apply below_alloc | apply pw_below_drewN | apply below_drew1) | exact HB.out))); rintro e w69 ⟨rfl, hb⟩; have n0_ := Aside0.mk (below_step (by repeat (first | (with_reducible first | exact HB.out | apply below_alloc | apply pw_below_drewN | apply below_drew1) | exact HB.out)) hb); clear HB; have HB := n0_; clear n0_; (try clear hb); (try clear hb2); (try clear hk); (try clear hi)))
                      go_ret
                      exact ⟨by first | rfl | (simp [errW_none, errW_some] <;> rfl) | (simp [*, errW_none, errW_some] <;> rfl), by repeat (first | (with_reducible first | exact HB.out | apply below_alloc | apply pw_below_drewN | apply below_drew1) | exact HB.out)⟩
                    · replace c65 := Bool.eq_false_iff.mpr c65
                      subst c65
                      have H1 : (some true) = some r := by rw [if_neg (show ¬ (false = true) by decide)] at H; exact H
                      clear H
                      have H := H1
                      clear H1
                      obtain rfl := Option.some.inj H
                      go_wp2_with (first | ((with_reducible refine gate_callee (f := 16) rfl ?_); refine goesL_ (some 56) rfl rfl Tryd.func16 (by kernel_rfl) rfl #[.string t102, .string t102] rfl (by (try simp only [List.map_toArray, List.map_cons, List.map_nil]); first | done | rfl | (simp only [List.length_drop, List.length_take]; rfl)) ?_; (with_reducible refine (impl_DomainIn.calls kj4 t102 t102 true _ ?side1 A39.out).mono ?_); (case side1 => first | (with_reducible exact HG.out) | ((with_reducible repeat (first | exact HG.out | apply GOK.drewN | apply GOK.drew)); done) | exact GOK.below HG.out (by repeat (first | (with_reducible first | exact HB.out | apply below_alloc | apply pw_below_drewN | apply below_drew1) | exact HB.out))); rintro e w70 ⟨rfl, hb⟩; refine ⟨_, rfl, ?_⟩; have n0_ := Aside0.mk (below_step (by repeat (first | (with_reducible first | exact HB.out | apply below_alloc | apply pw_below_drewN | apply below_drew1) | exact HB.out)) hb); clear HB; have HB := n0_; clear n0_; (try clear hb); (try clear hb2); (try clear hk); (try clear hi)) | (go_at_call 18; (with_reducible refine (impl_DomainOk.calls kj4 ((⟨#[120, 46]⟩ : ByteArray) ++ t102) true _ ?side1 A41.out).mono ?_); (case side1 => first | (with_reducible exact HG.out) | ((with_reducible repeat (first | exact HG.out | apply GOK.drewN | apply GOK.drew)); done) | exact GOK.below HG.out (by repeat (first | (with_reducible first | exact HB.out | apply below_alloc | apply pw_below_drewN | apply below_drew1) | exact HB.out))); rintro e w71 ⟨rfl, hb⟩; have n0_ := Aside0.mk (below_step (by repeat (first | (with_reducible first | exact HB.out | apply below_alloc | apply pw_below_drewN | apply below_drew1) | exact HB.out)) hb); clear HB; have HB := n0_; clear n0_; (try clear hb); (try clear hb2); (try clear hk); (try clear hi)) | (go_at_call 16; (with_reducible refine (impl_DomainIn.calls kj4 ((⟨#[120, 46]⟩ : ByteArray) ++ t102) t102 true _ ?side1 A43.out).mono ?_); (case side1 => first | (with_reducible exact HG.out) | ((with_reducible repeat (first | exact HG.out | apply GOK.drewN | apply GOK.drew)); done) | exact GOK.below HG.out (by repeat (first | (with_reducible first | exact HB.out | apply below_alloc | apply pw_below_drewN | apply below_drew1) | exact HB.out))); rintro e w72 ⟨rfl, hb⟩; have n0_ := Aside0.mk (below_step (by repeat (first | (with_reducible first | exact HB.out | apply below_alloc | apply pw_below_drewN | apply below_drew1) | exact HB.out)) hb); clear HB; have HB := n0_; clear n0_; (try clear hb); (try clear hb2); (try clear hk); (try clear hi)) | (go_at_call 16; (with_reducible refine (impl_DomainIn.calls kj4 t102 ((⟨#[120, 46]⟩ : ByteArray) ++ t102) false _ ?side1 A64.out).mono ?_); (case side1 => first | (with_reducible exact HG.out) | ((with_reducible repeat (first | exact HG.out | apply GOK.drewN | apply GOK.drew)); done) | exact GOK.below HG.out (by repeat (first | (with_reducible first | exact HB.out | apply below_alloc | apply pw_below_drewN | apply below_drew1) | exact HB.out))); rintro e w73 ⟨rfl, hb⟩; have n0_ := Aside0.mk (below_step (by repeat (first | (with_reducible first | exact HB.out | apply below_alloc | apply pw_below_drewN | apply below_drew1) | exact HB.out)) hb); clear HB; have HB := n0_; clear n0_; (try clear hb); (try clear hb2); (try clear hk); (try clear hi)))
                      go_ret
                      exact ⟨by first | rfl | (simp [errW_none, errW_some] <;> rfl) | (simp [*, errW_none, errW_some] <;> rfl), by repeat (first | (with_reducible first | exact HB.out | apply below_alloc | apply pw_below_drewN | apply below_drew1) | exact HB.out)⟩
                · replace c44 := Bool.eq_false_iff.mpr c44
                  subst c44
                  have H1 : (some false) = some r := by rw [if_neg (show ¬ (false = true) by decide)] at H; exact H
                  clear H
                  have H := H1
                  clear H1
                  obtain rfl := Option.some.inj H
                  go_wp2_with (first | ((with_reducible refine gate_callee (f := 16) rfl ?_); refine goesL_ (some 56) rfl rfl Tryd.func16 (by kernel_rfl) rfl #[.string t102, .string t102] rfl (by (try simp only [List.map_toArray, List.map_cons, List.map_nil]); first | done | rfl | (simp only [List.length_drop, List.length_take]; rfl)) ?_; (with_reducible refine (impl_DomainIn.calls kj4 t102 t102 true _ ?side1 A39.out).mono ?_); (case side1 => first | (with_reducible exact HG.out) | ((with_reducible repeat (first | exact HG.out | apply GOK.drewN | apply GOK.drew)); done) | exact GOK.below HG.out (by repeat (first | (with_reducible first | exact HB.out | apply below_alloc | apply pw_below_drewN | apply below_drew1) | exact HB.out))); rintro e w74 ⟨rfl, hb⟩; refine ⟨_, rfl, ?_⟩; have n0_ := Aside0.mk (below_step (by repeat (first | (with_reducible first | exact HB.out | apply below_alloc | apply pw_below_drewN | apply below_drew1) | exact HB.out)) hb); clear HB; have HB := n0_; clear n0_; (try clear hb); (try clear hb2); (try clear hk); (try clear hi)) | (go_at_call 18; (with_reducible refine (impl_DomainOk.calls kj4 ((⟨#[120, 46]⟩ : ByteArray) ++ t102) true _ ?side1 A41.out).mono ?_); (case side1 => first | (with_reducible exact HG.out) | ((with_reducible repeat (first | exact HG.out | apply GOK.drewN | apply GOK.drew)); done) | exact GOK.below HG.out (by repeat (first | (with_reducible first | exact HB.out | apply below_alloc | apply pw_below_drewN | apply below_drew1) | exact HB.out))); rintro e w75 ⟨rfl, hb⟩; have n0_ := Aside0.mk (below_step (by repeat (first | (with_reducible first | exact HB.out | apply below_alloc | apply pw_below_drewN | apply below_drew1) | exact HB.out)) hb); clear HB; have HB := n0_; clear n0_; (try clear hb); (try clear hb2); (try clear hk); (try clear hi)) | (go_at_call 16; (with_reducible refine (impl_DomainIn.calls kj4 ((⟨#[120, 46]⟩ : ByteArray) ++ t102) t102 false _ ?side1 A43.out).mono ?_); (case side1 => first | (with_reducible exact HG.out) | ((with_reducible repeat (first | exact HG.out | apply GOK.drewN | apply GOK.drew)); done) | exact GOK.below HG.out (by repeat (first | (with_reducible first | exact HB.out | apply below_alloc | apply pw_below_drewN | apply below_drew1) | exact HB.out))); rintro e w76 ⟨rfl, hb⟩; have n0_ := Aside0.mk (below_step (by repeat (first | (with_reducible first | exact HB.out | apply below_alloc | apply pw_below_drewN | apply below_drew1) | exact HB.out)) hb); clear HB; have HB := n0_; clear n0_; (try clear hb); (try clear hb2); (try clear hk); (try clear hi)))
                  go_ret
                  exact ⟨by first | rfl | (simp [errW_none, errW_some] <;> rfl) | (simp [*, errW_none, errW_some] <;> rfl), by repeat (first | (with_reducible first | exact HB.out | apply below_alloc | apply pw_below_drewN | apply below_drew1) | exact HB.out)⟩
              · replace c42 := Bool.eq_false_iff.mpr c42
                subst c42
                have H1 : ((impl_DomainIn.f kj4 t102 ((⟨#[120, 46]⟩ : ByteArray) ++ t102)).bind fun t119 => (if t119 = true then (some false) else (if t104 = true then (some (decide ((t102.size : Int) ≥ (t103.size : Int)))) else (some true)))) = some r := by rw [if_neg (show ¬ (false = true) by decide)] at H; exact H
                clear H
                have H := H1
                clear H1
                replace H := Option.bind_eq_some_iff.mp H
                obtain ⟨t119, A770, H⟩ := H
                replace H : (if t119 = true then (some false) else (if t104 = true then (some (decide ((t102.size : Int) ≥ (t103.size : Int)))) else (some true))) = some r := H
                have A77 := Aside0.mk A770
                clear A770
                by_cases c78 : t119 = true
                · subst c78
                  have H1 : (some false) = some r := by rw [if_pos rfl] at H; exact H
                  clear H
                  have H := H1
                  clear H1
                  obtain rfl := Option.some.inj H
                  go_wp2_with (first | ((with_reducible refine gate_callee (f := 16) rfl ?_); refine goesL_ (some 56) rfl rfl Tryd.func16 (by kernel_rfl) rfl #[.string t102, .string t102] rfl (by (try simp only [List.map_toArray, List.map_cons, List.map_nil]); first | done | rfl | (simp only [List.length_drop, List.length_take]; rfl)) ?_; (with_reducible refine (impl_DomainIn.calls kj4 t102 t102 true _ ?side1 A39.out).mono ?_); (case side1 => first | (with_reducible exact HG.out) | ((with_reducible repeat (first | exact HG.out | apply GOK.drewN | apply GOK.drew)); done) | exact GOK.below HG.out (by repeat (first | (with_reducible first | exact HB.out | apply below_alloc | apply pw_below_drewN | apply below_drew1) | exact HB.out))); rintro e w79 ⟨rfl, hb⟩; refine ⟨_, rfl, ?_⟩; have n0_ := Aside0.mk (below_step (by repeat (first | (with_reducible first | exact HB.out | apply below_alloc | apply pw_below_drewN | apply below_drew1) | exact HB.out)) hb); clear HB; have HB := n0_; clear n0_; (try clear hb); (try clear hb2); (try clear hk); (try clear hi)) | (go_at_call 18; (with_reducible refine (impl_DomainOk.calls kj4 ((⟨#[120, 46]⟩ : ByteArray) ++ t102) false _ ?side1 A41.out).mono ?_); (case side1 => first | (with_reducible exact HG.out) | ((with_reducible repeat (first | exact HG.out | apply GOK.drewN | apply GOK.drew)); done) | exact GOK.below HG.out (by repeat (first | (with_reducible first | exact HB.out | apply below_alloc | apply pw_below_drewN | apply below_drew1) | exact HB.out))); rintro e w80 ⟨rfl, hb⟩; have n0_ := Aside0.mk (below_step (by repeat (first | (with_reducible first | exact HB.out | apply below_alloc | apply pw_below_drewN | apply below_drew1) | exact HB.out)) hb); clear HB; have HB := n0_; clear n0_; (try clear hb); (try clear hb2); (try clear hk); (try clear hi)) | (go_at_call 16; (with_reducible refine (impl_DomainIn.calls kj4 t102 ((⟨#[120, 46]⟩ : ByteArray) ++ t102) true _ ?side1 A77.out).mono ?_); (case side1 => first | (with_reducible exact HG.out) | ((with_reducible repeat (first | exact HG.out | apply GOK.drewN | apply GOK.drew)); done) | exact GOK.below HG.out (by repeat (first | (with_reducible first | exact HB.out | apply below_alloc | apply pw_below_drewN | apply below_drew1) | exact HB.out))); rintro e w81 ⟨rfl, hb⟩; have n0_ := Aside0.mk (below_step (by repeat (first | (with_reducible first | exact HB.out | apply below_alloc | apply pw_below_drewN | apply below_drew1) | exact HB.out)) hb); clear HB; have HB := n0_; clear n0_; (try clear hb); (try clear hb2); (try clear hk); (try clear hi)))
                  go_ret
                  exact ⟨by first | rfl | (simp [errW_none, errW_some] <;> rfl) | (simp [*, errW_none, errW_some] <;> rfl), by repeat (first | (with_reducible first | exact HB.out | apply below_alloc | apply pw_below_drewN | apply below_drew1) | exact HB.out)⟩
                · replace c78 := Bool.eq_false_iff.mpr c78
                  subst c78
                  have H1 : (if t104 = true then (some (decide ((t102.size : Int) ≥ (t103.size : Int)))) else (some true)) = some r := by rw [if_neg (show ¬ (false = true) by decide)] at H; exact H
                  clear H
                  have H := H1
                  clear H1
                  by_cases c82 : t104 = true
                  · subst c82
                    have H1 : (some (decide ((t102.size : Int) ≥ (t103.size : Int)))) = some r := by rw [if_pos rfl] at H; exact H
                    clear H
                    have H := H1
                    clear H1
                    obtain rfl := Option.some.inj H
                    go_wp2_with (first | ((with_reducible refine gate_callee (f := 16) rfl ?_); refine goesL_ (some 56) rfl rfl Tryd.func16 (by kernel_rfl) rfl #[.string t102, .string t102] rfl (by (try simp only [List.map_toArray, List.map_cons, List.map_nil]); first | done | rfl | (simp only [List.length_drop, List.length_take]; rfl)) ?_; (with_reducible refine (impl_DomainIn.calls kj4 t102 t102 true _ ?side1 A39.out).mono ?_); (case side1 => first | (with_reducible exact HG.out) | ((with_reducible repeat (first | exact HG.out | apply GOK.drewN | apply GOK.drew)); done) | exact GOK.below HG.out (by repeat (first | (with_reducible first | exact HB.out | apply below_alloc | apply pw_below_drewN | apply below_drew1) | exact HB.out))); rintro e w83 ⟨rfl, hb⟩; refine ⟨_, rfl, ?_⟩; have n0_ := Aside0.mk (below_step (by repeat (first | (with_reducible first | exact HB.out | apply below_alloc | apply pw_below_drewN | apply below_drew1) | exact HB.out)) hb); clear HB; have HB := n0_; clear n0_; (try clear hb); (try clear hb2); (try clear hk); (try clear hi)) | (go_at_call 18; (with_reducible refine (impl_DomainOk.calls kj4 ((⟨#[120, 46]⟩ : ByteArray) ++ t102) false _ ?side1 A41.out).mono ?_); (case side1 => first | (with_reducible exact HG.out) | ((with_reducible repeat (first | exact HG.out | apply GOK.drewN | apply GOK.drew)); done) | exact GOK.below HG.out (by repeat (first | (with_reducible first | exact HB.out | apply below_alloc | apply pw_below_drewN | apply below_drew1) | exact HB.out))); rintro e w84 ⟨rfl, hb⟩; have n0_ := Aside0.mk (below_step (by repeat (first | (with_reducible first | exact HB.out | apply below_alloc | apply pw_below_drewN | apply below_drew1) | exact HB.out)) hb); clear HB; have HB := n0_; clear n0_; (try clear hb); (try clear hb2); (try clear hk); (try clear hi)) | (go_at_call 16; (with_reducible refine (impl_DomainIn.calls kj4 t102 ((⟨#[120, 46]⟩ : ByteArray) ++ t102) false _ ?side1 A77.out).mono ?_); (case side1 => first | (with_reducible exact HG.out) | ((with_reducible repeat (first | exact HG.out | apply GOK.drewN | apply GOK.drew)); done) | exact GOK.below HG.out (by repeat (first | (with_reducible first | exact HB.out | apply below_alloc | apply pw_below_drewN | apply below_drew1) | exact HB.out))); rintro e w85 ⟨rfl, hb⟩; have n0_ := Aside0.mk (below_step (by repeat (first | (with_reducible first | exact HB.out | apply below_alloc | apply pw_below_drewN | apply below_drew1) | exact HB.out)) hb); clear HB; have HB := n0_; clear n0_; (try clear hb); (try clear hb2); (try clear hk); (try clear hi)))
                    go_ret
                    exact ⟨by first | rfl | (simp [errW_none, errW_some] <;> rfl) | (simp [*, errW_none, errW_some] <;> rfl), by repeat (first | (with_reducible first | exact HB.out | apply below_alloc | apply pw_below_drewN | apply below_drew1) | exact HB.out)⟩
                  · replace c82 := Bool.eq_false_iff.mpr c82
                    subst c82
                    have H1 : (some true) = some r := by rw [if_neg (show ¬ (false = true) by decide)] at H; exact H
                    clear H
                    have H := H1
                    clear H1
                    obtain rfl := Option.some.inj H
                    go_wp2_with (first | ((with_reducible refine gate_callee (f := 16) rfl ?_); refine goesL_ (some 56) rfl rfl Tryd.func16 (by kernel_rfl) rfl #[.string t102, .string t102] rfl (by (try simp only [List.map_toArray, List.map_cons, List.map_nil]); first | done | rfl | (simp only [List.length_drop, List.length_take]; rfl)) ?_; (with_reducible refine (impl_DomainIn.calls kj4 t102 t102 true _ ?side1 A39.out).mono ?_); (case side1 => first | (with_reducible exact HG.out) | ((with_reducible repeat (first | exact HG.out | apply GOK.drewN | apply GOK.drew)); done) | exact GOK.below HG.out (by repeat (first | (with_reducible first | exact HB.out | apply below_alloc | apply pw_below_drewN | apply below_drew1) | exact HB.out))); rintro e w86 ⟨rfl, hb⟩; refine ⟨_, rfl, ?_⟩; have n0_ := Aside0.mk (below_step (by repeat (first | (with_reducible first | exact HB.out | apply below_alloc | apply pw_below_drewN | apply below_drew1) | exact HB.out)) hb); clear HB; have HB := n0_; clear n0_; (try clear hb); (try clear hb2); (try clear hk); (try clear hi)) | (go_at_call 18; (with_reducible refine (impl_DomainOk.calls kj4 ((⟨#[120, 46]⟩ : ByteArray) ++ t102) false _ ?side1 A41.out).mono ?_); (case side1 => first | (with_reducible exact HG.out) | ((with_reducible repeat (first | exact HG.out | apply GOK.drewN | apply GOK.drew)); done) | exact GOK.below HG.out (by repeat (first | (with_reducible first | exact HB.out | apply below_alloc | apply pw_below_drewN | apply below_drew1) | exact HB.out))); rintro e w87 ⟨rfl, hb⟩; have n0_ := Aside0.mk (below_step (by repeat (first | (with_reducible first | exact HB.out | apply below_alloc | apply pw_below_drewN | apply below_drew1) | exact HB.out)) hb); clear HB; have HB := n0_; clear n0_; (try clear hb); (try clear hb2); (try clear hk); (try clear hi)) | (go_at_call 16; (with_reducible refine (impl_DomainIn.calls kj4 t102 ((⟨#[120, 46]⟩ : ByteArray) ++ t102) false _ ?side1 A77.out).mono ?_); (case side1 => first | (with_reducible exact HG.out) | ((with_reducible repeat (first | exact HG.out | apply GOK.drewN | apply GOK.drew)); done) | exact GOK.below HG.out (by repeat (first | (with_reducible first | exact HB.out | apply below_alloc | apply pw_below_drewN | apply below_drew1) | exact HB.out))); rintro e w88 ⟨rfl, hb⟩; have n0_ := Aside0.mk (below_step (by repeat (first | (with_reducible first | exact HB.out | apply below_alloc | apply pw_below_drewN | apply below_drew1) | exact HB.out)) hb); clear HB; have HB := n0_; clear n0_; (try clear hb); (try clear hb2); (try clear hk); (try clear hi)))
                    go_ret
                    exact ⟨by first | rfl | (simp [errW_none, errW_some] <;> rfl) | (simp [*, errW_none, errW_some] <;> rfl), by repeat (first | (with_reducible first | exact HB.out | apply below_alloc | apply pw_below_drewN | apply below_drew1) | exact HB.out)⟩
            · replace c40 := Bool.eq_false_iff.mpr c40
              subst c40
              have H1 : (some false) = some r := by rw [if_neg (show ¬ (false = true) by decide)] at H; exact H
              clear H
              have H := H1
              clear H1
              obtain rfl := Option.some.inj H
              go_wp2_with (first | ((with_reducible refine gate_callee (f := 16) rfl ?_); refine goesL_ (some 56) rfl rfl Tryd.func16 (by kernel_rfl) rfl #[.string t102, .string t102] rfl (by (try simp only [List.map_toArray, List.map_cons, List.map_nil]); first | done | rfl | (simp only [List.length_drop, List.length_take]; rfl)) ?_; (with_reducible refine (impl_DomainIn.calls kj4 t102 t102 false _ ?side1 A39.out).mono ?_); (case side1 => first | (with_reducible exact HG.out) | ((with_reducible repeat (first | exact HG.out | apply GOK.drewN | apply GOK.drew)); done) | exact GOK.below HG.out (by repeat (first | (with_reducible first | exact HB.out | apply below_alloc | apply pw_below_drewN | apply below_drew1) | exact HB.out))); rintro e w89 ⟨rfl, hb⟩; refine ⟨_, rfl, ?_⟩; have n0_ := Aside0.mk (below_step (by repeat (first | (with_reducible first | exact HB.out | apply below_alloc | apply pw_below_drewN | apply below_drew1) | exact HB.out)) hb); clear HB; have HB := n0_; clear n0_; (try clear hb); (try clear hb2); (try clear hk); (try clear hi)))
              go_ret
              exact ⟨by first | rfl | (simp [errW_none, errW_some] <;> rfl) | (simp [*, errW_none, errW_some] <;> rfl), by repeat (first | (with_reducible first | exact HB.out | apply below_alloc | apply pw_below_drewN | apply below_drew1) | exact HB.out)⟩
          · rw [if_neg c38] at H
            exact absurd H (by simp)
end Go.Proofs.YtpeefjfklklhdaaDoor.Q
