/- What is proved: FnExactSessOk holds of the given program: laws.FnExactSessOk: for every input that can be read the call returns true, and each argument reads behind it as before. No condition. -/
import Derived.Test.YtbabdndgaafoaaaRows
import Derived.Test.YtbabdndgaafoaaaQ19
import Derived.Test.YtbabdndgaafoaaaLFnExactSessOk
import Derived.Test.YtbabdndgaafoaaaHOpen
import Derived.Test.YtbabdndgaafoaaaHCut
import Derived.WalkKit
import Derived.ProofKit
import Derived.OpenShut
import Derived.ShutString
import Derived.ChangeOld
import Derived.Below
import Derived.SizedLaws
import Derived.HandedShaped
import Derived.Shelf.Vars
import Derived.WideShapes
namespace Go.Proofs.Ytbabdndgaafoaaa.fnExactSessOk
open Go.ChangeShapes Go.WideShapes Go.ChangeAt Go.RowKit Go.Proofs.Ytbabdndgaafoaaa.Q Go.Proofs.YtbabdndgaafoaaaW.PrintWords Go.Proofs.YtbabdndgaafoaaaW.PrintLast Go.Proofs.YtbabdndgaafoaaaW.PrintMore
open Go.ChangeMaps (open_string shut_string)
set_option linter.unusedVariables false
set_option linter.unusedSimpArgs false
theorem own : ownKnob Try.prog.godebug = none := by kernel_rfl
theorem laidOut : laidOutB Try.prog = true := by kernel_rfl
theorem opens37 : Opens Try.prog k37 37 (fun x => x.f0.size ≤ maxLen ∧ x.f1.size ≤ maxLen) := by
  refine ⟨fun {H enc w base spare held fuel cs x} hf => ?_⟩
  have hz := (trod_fields Try.underlying37 hf).1
  rw [show Try.prog.cellsOf 37 = 2 by kernel_rfl] at hz
  obtain ⟨e0, e1, rfl⟩ := list2 hz
  obtain ⟨y0, q0⟩ := fields_at Try.underlying37 hf 0 9 [e0] ⟨rfl, rfl, by kernel_rfl⟩ (by rfl)
  obtain ⟨a0, z0, w0⟩ := (Opens.string Try.underlying9).out q0
  obtain rfl := (List.cons.inj z0).1
  obtain ⟨y1, q1⟩ := fields_at Try.underlying37 hf 1 9 [e1] ⟨rfl, rfl, by kernel_rfl⟩ (by rfl)
  obtain ⟨a1, z1, w1⟩ := (Opens.string Try.underlying9).out q1
  obtain rfl := (List.cons.inj z1).1
  exact ⟨⟨a0, a1⟩, k37_mk _ _, w0, w1⟩
theorem gok {W : World} (h : W.ShapedOpen Try.prog) : GOK W := Go.Proofs.cell_of_shapedOpen_int h (of_decide_eq_true (by kernel_rfl)) (t := 3) (zero := #[.int .i64 0]) (by kernel_rfl) rfl (by kernel_rfl) (by kernel_rfl) Try.underlying3
set_option maxHeartbeats 4000000 in
set_option maxRecDepth 100000 in
theorem contract (H : Type) (enc : TypeId × Value → H) (W : World) (base : Nat) (args : Array Value) (ds gs : List (DataW H)) (before : List MemPlace)
    (hval0 : ∀ (j : Nat) t v, Try.f8.params[j]? = some t → args[j]? = some v → Value.okWide Try.prog W .any base t v)
    (hW : DataW.Whole enc Try.prog Try.f8.params.toList Rows.fnExactSessOkSpec.vars false W args.toList ds gs before) (hG : GOK W) :
    Calls Try.prog 8 args W fun e W' => ∃ v, e = .returned v ∧ Rows.fnExactSessOkSpec.post enc Try.prog Try.f8 false true false false W args v W' := by
  have hval : ∀ (j : Nat) t v, Try.f8.params[j]? = some t → args[j]? = some v → Value.okWide Try.prog W .any base t v := hval0
  have hW' := hW
  obtain ⟨p, q, hA0, hV, rfl, hfz, hnd⟩ := hW
  have hA : DataW.TrodAll enc Try.prog W 0 (fun _ => true) true Try.f8.params.toList args.toList ds p := hA0
  rw [Try.params8] at hA hval
  obtain ⟨v0, vs0, d0, ds0, p0, q0, hargs, rfl, rfl, h0, r0⟩ := trodAll_cons hA
  obtain ⟨rfl, rfl, rfl⟩ := trodAll_nil r0
  obtain rfl : args = #[v0] := by cases args; simp_all
  obtain ⟨rfl, rfl⟩ := trodVars_none hV
  have k0 := h0
  have lt0 : ∀ x ∈ p0, x.block < W.heap.size := by obtain ⟨m, hm⟩ := k0; exact DataW.trod_lt m _ _ _ hm
  obtain ⟨fuel0, hf0⟩ := h0
  obtain ⟨cs0, rfl, hz0⟩ := okWide_struct Try.underlying42 (hval 0 42 v0 rfl rfl)
  rw [show Try.prog.cellsOf 42 = 7 by kernel_rfl] at hz0
  obtain ⟨cl0⟩ := cs0
  simp only [List.size_toArray] at hz0
  obtain ⟨e0_0, e0_1, e0_2, e0_3, e0_4, e0_5, e0_6, rfl⟩ := list7 hz0
  have hf0 : DataW.trod enc Try.prog W 0 (fun _ => true) true fuel0 42 [e0_0, e0_1, e0_2, e0_3, e0_4, e0_5, e0_6] = some (d0, p0) := hf0
  obtain ⟨yhf0_0, hf0_0⟩ := fields_at Try.underlying42 hf0 0 3 [e0_0] ⟨rfl, rfl, by kernel_rfl⟩ (by rfl)
  obtain ⟨yhf0_1, hf0_1⟩ := fields_at Try.underlying42 hf0 1 40 [e0_1, e0_2, e0_3, e0_4] ⟨rfl, rfl, by kernel_rfl⟩ (by rfl)
  obtain ⟨yhf0_1_0, hf0_1_0⟩ := fields_at Try.underlying40 hf0_1 0 37 [e0_1, e0_2] ⟨rfl, rfl, by kernel_rfl⟩ (by rfl)
  obtain ⟨yhf0_1_0_0, hf0_1_0_0⟩ := fields_at Try.underlying37 hf0_1_0 0 9 [e0_1] ⟨rfl, rfl, by kernel_rfl⟩ (by rfl)
  obtain ⟨yhf0_1_0_1, hf0_1_0_1⟩ := fields_at Try.underlying37 hf0_1_0 1 9 [e0_2] ⟨rfl, rfl, by kernel_rfl⟩ (by rfl)
  obtain ⟨yhf0_1_1, hf0_1_1⟩ := fields_at Try.underlying40 hf0_1 1 38 [e0_3] ⟨rfl, rfl, by kernel_rfl⟩ (by rfl)
  obtain ⟨yhf0_1_2, hf0_1_2⟩ := fields_at Try.underlying40 hf0_1 2 22 [e0_4] ⟨rfl, rfl, by kernel_rfl⟩ (by rfl)
  obtain ⟨yhf0_2, hf0_2⟩ := fields_at Try.underlying42 hf0 2 4 [e0_5] ⟨rfl, rfl, by kernel_rfl⟩ (by rfl)
  obtain ⟨yhf0_3, hf0_3⟩ := fields_at Try.underlying42 hf0 3 9 [e0_6] ⟨rfl, rfl, by kernel_rfl⟩ (by rfl)
  obtain ⟨a0_0, z0_0, w0_0⟩ := (Opens.int Try.underlying3).out hf0_0
  obtain rfl := (List.cons.inj z0_0).1
  obtain ⟨a0_1, z0_1, w0_1⟩ := (Opens.string Try.underlying9).out hf0_1_0_0
  obtain rfl := (List.cons.inj z0_1).1
  obtain ⟨a0_2, z0_2, w0_2⟩ := (Opens.string Try.underlying9).out hf0_1_0_1
  obtain rfl := (List.cons.inj z0_2).1
  obtain ⟨l0_3, ⟨A0_3, c0_3, z0_3, hl0_3, hC0_3⟩, w0_3⟩ := (Opens.slice Try.underlying38 (by kernel_rfl) opens37).out hf0_1_1
  obtain rfl := (List.cons.inj z0_3).1
  obtain ⟨l0_4, ⟨A0_4, c0_4, z0_4, hl0_4, hC0_4⟩, w0_4⟩ := (Opens.slice Try.underlying22 (by kernel_rfl) (Opens.string Try.underlying9)).out hf0_1_2
  obtain rfl := (List.cons.inj z0_4).1
  obtain ⟨a0_5, z0_5, w0_5⟩ := (Opens.bool Try.underlying4).out hf0_2
  obtain rfl := (List.cons.inj z0_5).1
  obtain ⟨a0_6, z0_6, w0_6⟩ := (Opens.string Try.underlying9).out hf0_3
  obtain rfl := (List.cons.inj z0_6).1
  obtain ⟨k, hk⟩ := fnExactSessOk_pure a0_0 a0_1 a0_2 l0_3 l0_4 a0_5 a0_6 w0_0 w0_1 w0_2 w0_3 w0_4 w0_6
  refine (laws_FnExactSessOk.calls k a0_0 a0_1 a0_2 _ _ l0_3 _ _ l0_4 a0_5 a0_6 true W hC0_3 hl0_3 hC0_4 hl0_4 hG hk).mono fun e W' ⟨he, bel0⟩ => ?_
  have bel : Below W.heap.size W W' := bel0
  subst he
  exact ⟨_, rfl, _, _, _, [], _, [], hW', trodAll_mk1 (shut_bool Try.underlying4 _), (trodAll_cons_mk (Below.trod laidOut (by kernel_rfl) (of_decide_eq_true (by kernel_rfl)) k0 bel lt0) trodAll_mk0), rfl, bel.frame _, fun h => by cases h⟩
set_option maxRecDepth 100000 in
theorem lifted (os : Os) (started : os.Started) (H : Type) (enc : TypeId × Value → H) :
    ReturnsInHanded {} Try.checked os 8 .any (Rows.fnExactSessOkSpec.pre6 enc Try.prog Try.f8 Rows.fnExactSessOkRow.domain false) (Rows.fnExactSessOkSpec.post enc Try.prog Try.f8 false true false false) := by
  refine returnsInHanded_of_change_shaped (C := Try.checked) own started (by kernel_rfl) Try.func8
    (ChangeSpec.witness6 (enc := enc) (C := Try.checked) false ⟨#[], #[.agg #[.int .i64 0, .string ByteArray.empty, .string ByteArray.empty, .slice none 0 0, .slice none 0 0, .bool false, .string ByteArray.empty]], []⟩ 8 (by kernel_rfl) (by kernel_rfl) (by kernel_rfl) (by kernel_rfl)) ?_
  intro W base args ds gs before hval hW _ _ hsh _
  exact contract H enc W base args ds gs before hval hW (gok hsh)
theorem over : Rows.fnExactSessOkRow.holds Try.pinned (OpenSpec.ofChange Rows.fnExactSessOkSpec) :=
  OpenClaim.holds_of_wide 8 Try.f8 rfl rfl rfl rfl rfl rfl rfl ⟨rfl, rfl, rfl, rfl, rfl⟩ rfl rfl rfl rfl rfl (by kernel_rfl) Try.func8 (by kernel_rfl)
    (of_decide_eq_true (by kernel_rfl)) (by unfold Func.isWrapper; first | (rw [if_pos (by decide +kernel)]; kernel_rfl) | (rw [if_neg (by decide +kernel)]; exact ⟨rfl, rfl⟩))
    (fun os started H enc _ => lifted os started H enc)
end Go.Proofs.Ytbabdndgaafoaaa.fnExactSessOk
namespace Go.Proofs.Ytbabdndgaafoaaa
theorem fnExactSessOk_holds : Rows.FnExactSessOkSaid := fnExactSessOk.over
end Go.Proofs.Ytbabdndgaafoaaa
