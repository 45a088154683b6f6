/- What is proved: FnExactNotePut holds of the given program: laws.FnExactNotePut: for every input that can be read the call returns true, and each argument reads behind it as before. A tied card: the listed variables of Go's library start as their text lays them. -/
import Derived.Test.YtjdpdkdhfnpcgaaGreatDoorRows
import Derived.Test.YtjdpdkdhfnpcgaaGreatDoorZzFnExactNotePutWQ19
import Derived.Test.YtjdpdkdhfnpcgaaGreatDoorZzFnExactNotePutWPl0
import Derived.Test.YtjdpdkdhfnpcgaaGreatDoorZzFnExactNotePutWHOpen
import Derived.Test.YtjdpdkdhfnpcgaaGreatDoorZzFnExactNotePutWHLaid
import Derived.Test.YtjdpdkdhfnpcgaaGreatDoorCards
import Derived.Test.YtjdpdkdhfnpcgaaGreatDoorTie
import Derived.WalkKit
import Derived.ProofKit
import Derived.OpenShut
import Derived.ShutString
import Derived.ChangeOld
import Derived.Below
import Derived.SizedLaws
import Derived.HandedShaped
import Derived.Shelf.Vars
import Derived.WideShapes
import Derived.Deep.DeepHandedRow
import Derived.LaidMore
import Derived.Lay
import Derived.SevenTiedAt
import Derived.Stop.Joined
namespace Go.Proofs.YtjdpdkdhfnpcgaaGreatDoor.fnExactNotePut
open Go.ChangeShapes Go.WideShapes Go.ChangeAt Go.RowKit Go.Proofs.YtjdpdkdhfnpcgaaGreatDoor.Q Go.Proofs.YtjdpdkdhfnpcgaaGreatDoorW.PrintWords Go.Proofs.YtjdpdkdhfnpcgaaGreatDoorW.PrintLast Go.Proofs.YtjdpdkdhfnpcgaaGreatDoorW.PrintMore
open Go.ChangeMaps (open_string shut_string)
set_option linter.unusedVariables false
set_option linter.unusedSimpArgs false
theorem own : ownKnob Tryz.prog.godebug = none := by kernel_rfl
theorem laidOut : laidOutB Tryz.prog = true := by kernel_rfl
theorem opens41 : Opens Tryz.prog k41 41 (fun x => x.f0.size ≤ maxLen ∧ x.f1.size ≤ maxLen) := by
  refine ⟨fun {H enc w base spare held fuel cs x} hf => ?_⟩
  have hz := (trod_fields Tryz.underlying41 hf).1
  rw [show Tryz.prog.cellsOf 41 = 2 by kernel_rfl] at hz
  obtain ⟨e0, e1, rfl⟩ := list2 hz
  obtain ⟨y0, q0⟩ := fields_at Tryz.underlying41 hf 0 9 [e0] ⟨rfl, rfl, by kernel_rfl⟩ (by rfl)
  obtain ⟨a0, z0, w0⟩ := (Opens.string Tryz.underlying9).out q0
  obtain rfl := (List.cons.inj z0).1
  obtain ⟨y1, q1⟩ := fields_at Tryz.underlying41 hf 1 9 [e1] ⟨rfl, rfl, by kernel_rfl⟩ (by rfl)
  obtain ⟨a1, z1, w1⟩ := (Opens.string Tryz.underlying9).out q1
  obtain rfl := (List.cons.inj z1).1
  exact ⟨⟨a0, a1⟩, k41_mk _ _, w0, w1⟩
theorem gok {W : World} (h : W.ShapedOpen Tryz.prog) (hL : laidMetH Tryz.prog Rows.fnExactNotePutRow.laid W) : GOK W := gok_laid h (by rw [MakeChecks.laidMetH_plain _ _ _ (by kernel_rfl)] at hL; exact hL)
set_option maxHeartbeats 4000000 in
set_option maxRecDepth 100000 in
theorem contract (H : Type) (enc : TypeId × Value → H) (W : World) (base : Nat) (args : Array Value) (ds gs : List (DataW H)) (before : List MemPlace)
    (hval0 : ∀ (j : Nat) t v, Tryz.f6.params[j]? = some t → args[j]? = some v → Value.okWide Tryz.prog W .any base t v)
    (hW : DataW.Whole enc Tryz.prog Tryz.f6.params.toList Rows.fnExactNotePutSpec.vars false W args.toList ds gs before) (hG : GOK W) :
    Calls Tryz.prog 6 args W fun e W' => ∃ v, e = .returned v ∧ Rows.fnExactNotePutSpec.post enc Tryz.prog Tryz.f6 false true false false W args v W' := by
  have hval : ∀ (j : Nat) t v, Tryz.f6.params[j]? = some t → args[j]? = some v → Value.okWide Tryz.prog W .any base t v := hval0
  have hW' := hW
  obtain ⟨p, q, hA0, hV, rfl, hfz, hnd⟩ := hW
  have hA : DataW.TrodAll enc Tryz.prog W 0 (fun _ => true) true Tryz.f6.params.toList args.toList ds p := hA0
  rw [Tryz.params6] at hA hval
  obtain ⟨v0, vs0, d0, ds0, p0, q0, hargs, rfl, rfl, h0, r0⟩ := trodAll_cons hA
  obtain ⟨rfl, rfl, rfl⟩ := trodAll_nil r0
  obtain rfl : args = #[v0] := by cases args; simp_all
  obtain ⟨rfl, rfl⟩ := trodVars_none hV
  have k0 := h0
  have lt0 : ∀ x ∈ p0, x.block < W.heap.size := by obtain ⟨m, hm⟩ := k0; exact DataW.trod_lt m _ _ _ hm
  obtain ⟨fuel0, hf0⟩ := h0
  obtain ⟨cs0, rfl, hz0⟩ := okWide_struct Tryz.underlying46 (hval 0 46 v0 rfl rfl)
  rw [show Tryz.prog.cellsOf 46 = 9 by kernel_rfl] at hz0
  obtain ⟨cl0⟩ := cs0
  simp only [List.size_toArray] at hz0
  obtain ⟨e0_0, e0_1, e0_2, e0_3, e0_4, e0_5, e0_6, e0_7, e0_8, rfl⟩ := list9 hz0
  have hf0 : DataW.trod enc Tryz.prog W 0 (fun _ => true) true fuel0 46 [e0_0, e0_1, e0_2, e0_3, e0_4, e0_5, e0_6, e0_7, e0_8] = some (d0, p0) := hf0
  obtain ⟨yhf0_0, hf0_0⟩ := fields_at Tryz.underlying46 hf0 0 3 [e0_0] ⟨rfl, rfl, by kernel_rfl⟩ (by rfl)
  obtain ⟨yhf0_1, hf0_1⟩ := fields_at Tryz.underlying46 hf0 1 3 [e0_1] ⟨rfl, rfl, by kernel_rfl⟩ (by rfl)
  obtain ⟨yhf0_2, hf0_2⟩ := fields_at Tryz.underlying46 hf0 2 41 [e0_2, e0_3] ⟨rfl, rfl, by kernel_rfl⟩ (by rfl)
  obtain ⟨yhf0_2_0, hf0_2_0⟩ := fields_at Tryz.underlying41 hf0_2 0 9 [e0_2] ⟨rfl, rfl, by kernel_rfl⟩ (by rfl)
  obtain ⟨yhf0_2_1, hf0_2_1⟩ := fields_at Tryz.underlying41 hf0_2 1 9 [e0_3] ⟨rfl, rfl, by kernel_rfl⟩ (by rfl)
  obtain ⟨yhf0_3, hf0_3⟩ := fields_at Tryz.underlying46 hf0 3 3 [e0_4] ⟨rfl, rfl, by kernel_rfl⟩ (by rfl)
  obtain ⟨yhf0_4, hf0_4⟩ := fields_at Tryz.underlying46 hf0 4 44 [e0_5, e0_6, e0_7, e0_8] ⟨rfl, rfl, by kernel_rfl⟩ (by rfl)
  obtain ⟨yhf0_4_0, hf0_4_0⟩ := fields_at Tryz.underlying44 hf0_4 0 41 [e0_5, e0_6] ⟨rfl, rfl, by kernel_rfl⟩ (by rfl)
  obtain ⟨yhf0_4_0_0, hf0_4_0_0⟩ := fields_at Tryz.underlying41 hf0_4_0 0 9 [e0_5] ⟨rfl, rfl, by kernel_rfl⟩ (by rfl)
  obtain ⟨yhf0_4_0_1, hf0_4_0_1⟩ := fields_at Tryz.underlying41 hf0_4_0 1 9 [e0_6] ⟨rfl, rfl, by kernel_rfl⟩ (by rfl)
  obtain ⟨yhf0_4_1, hf0_4_1⟩ := fields_at Tryz.underlying44 hf0_4 1 42 [e0_7] ⟨rfl, rfl, by kernel_rfl⟩ (by rfl)
  obtain ⟨yhf0_4_2, hf0_4_2⟩ := fields_at Tryz.underlying44 hf0_4 2 26 [e0_8] ⟨rfl, rfl, by kernel_rfl⟩ (by rfl)
  obtain ⟨a0_0, z0_0, w0_0⟩ := (Opens.int Tryz.underlying3).out hf0_0
  obtain rfl := (List.cons.inj z0_0).1
  obtain ⟨a0_1, z0_1, w0_1⟩ := (Opens.int Tryz.underlying3).out hf0_1
  obtain rfl := (List.cons.inj z0_1).1
  obtain ⟨a0_2, z0_2, w0_2⟩ := (Opens.string Tryz.underlying9).out hf0_2_0
  obtain rfl := (List.cons.inj z0_2).1
  obtain ⟨a0_3, z0_3, w0_3⟩ := (Opens.string Tryz.underlying9).out hf0_2_1
  obtain rfl := (List.cons.inj z0_3).1
  obtain ⟨a0_4, z0_4, w0_4⟩ := (Opens.int Tryz.underlying3).out hf0_3
  obtain rfl := (List.cons.inj z0_4).1
  obtain ⟨a0_5, z0_5, w0_5⟩ := (Opens.string Tryz.underlying9).out hf0_4_0_0
  obtain rfl := (List.cons.inj z0_5).1
  obtain ⟨a0_6, z0_6, w0_6⟩ := (Opens.string Tryz.underlying9).out hf0_4_0_1
  obtain rfl := (List.cons.inj z0_6).1
  obtain ⟨l0_7, ⟨A0_7, c0_7, z0_7, hl0_7, hC0_7⟩, w0_7⟩ := (Opens.slice Tryz.underlying42 (by kernel_rfl) opens41).out hf0_4_1
  obtain rfl := (List.cons.inj z0_7).1
  obtain ⟨l0_8, ⟨A0_8, c0_8, z0_8, hl0_8, hC0_8⟩, w0_8⟩ := (Opens.slice Tryz.underlying26 (by kernel_rfl) (Opens.string Tryz.underlying9)).out hf0_4_2
  obtain rfl := (List.cons.inj z0_8).1
  obtain ⟨k, hk⟩ := fnExactNotePut_pure a0_0 a0_1 a0_2 a0_3 a0_4 a0_5 a0_6 l0_7 l0_8 w0_0 w0_1 w0_2 w0_3 w0_4 w0_5 w0_6 w0_7 w0_8
  refine (laws_FnExactNotePut.calls k a0_0 a0_1 a0_2 a0_3 a0_4 a0_5 a0_6 _ _ l0_7 _ _ l0_8 true W hC0_7 hl0_7 hC0_8 hl0_8 hG hk).mono fun e W' ⟨he, bel0⟩ => ?_
  have bel : Below W.heap.size W W' := bel0
  subst he
  exact ⟨_, rfl, _, _, _, [], _, [], hW', trodAll_mk1 (shut_bool Tryz.underlying4 _), (trodAll_cons_mk (Below.trod laidOut (by kernel_rfl) (of_decide_eq_true (by kernel_rfl)) k0 bel lt0) trodAll_mk0), rfl, bel.frame _, fun h => by cases h⟩
noncomputable def w0 (os : Os) : World := World.laidAll Tryz.prog os Rows.fnExactNotePutRow.laid
theorem laid_met (os : Os) : laidMetH Tryz.prog Rows.fnExactNotePutRow.laid ((w0 os).forCall (fun _ _ => 0) ⟨#[], #[.agg #[.int .i64 0, .int .i64 0, .string ByteArray.empty, .string ByteArray.empty, .int .i64 0, .string ByteArray.empty, .string ByteArray.empty, .slice none 0 0, .slice none 0 0]], []⟩).memory := by
  rw [MakeChecks.laidMetH_plain _ _ _ (by kernel_rfl)]
  exact laidMet_laidAll _ (by kernel_rfl) (by kernel_rfl)
theorem shaped (os : Os) : ((w0 os).forCall (fun _ _ => 0) ⟨#[], #[.agg #[.int .i64 0, .int .i64 0, .string ByteArray.empty, .string ByteArray.empty, .int .i64 0, .string ByteArray.empty, .string ByteArray.empty, .slice none 0 0, .slice none 0 0]], []⟩).Shaped Tryz.prog := World.shaped_of_ZipB (by kernel_rfl) (by kernel_rfl)
set_option maxRecDepth 100000 in
theorem witness (os : Os) {H : Type} (enc : TypeId × Value → H) : ∃ (w : World) (tape : Tape) (i : Input), w.os = os ∧ (w.forCall tape i).Shaped Tryz.checked.prog ∧ i.vars = [] ∧ Input.okWide Tryz.checked.prog (w.forCall tape i) .any w.heap.size 6 i ∧
    (OpenSpec.ofChange Rows.fnExactNotePutSpec).preRow enc Tryz.checked.prog Tryz.f6 Rows.fnExactNotePutRow.domain false Rows.fnExactNotePutRow.laid (w.forCall tape i).memory i.args ∧ ({} : Assume).holds Tryz.checked.prog (lone (Frame.enter Tryz.checked.prog 6 i.args .normal) [] (w.forCall tape i)) := by
  have hok : Input.okWideB Tryz.checked.prog ((w0 os).forCall (fun _ _ => 0) ⟨#[], #[.agg #[.int .i64 0, .int .i64 0, .string ByteArray.empty, .string ByteArray.empty, .int .i64 0, .string ByteArray.empty, .string ByteArray.empty, .slice none 0 0, .slice none 0 0]], []⟩) 6 ⟨#[], #[.agg #[.int .i64 0, .int .i64 0, .string ByteArray.empty, .string ByteArray.empty, .int .i64 0, .string ByteArray.empty, .string ByteArray.empty, .slice none 0 0, .slice none 0 0]], []⟩ = true := by kernel_rfl
  have hs : (DataW.whole enc Tryz.checked.prog ((w0 os).forCall (fun _ _ => 0) ⟨#[], #[.agg #[.int .i64 0, .int .i64 0, .string ByteArray.empty, .string ByteArray.empty, .int .i64 0, .string ByteArray.empty, .string ByteArray.empty, .slice none 0 0, .slice none 0 0]], []⟩).memory Tryz.f6.params.toList (OpenSpec.ofChange Rows.fnExactNotePutSpec).vars false (#[.agg #[.int .i64 0, .int .i64 0, .string ByteArray.empty, .string ByteArray.empty, .int .i64 0, .string ByteArray.empty, .string ByteArray.empty, .slice none 0 0, .slice none 0 0]] : Array Value).toList 8).isSome = true := by kernel_rfl
  obtain ⟨x, hx⟩ := Option.isSome_iff_exists.1 hs
  refine ⟨w0 os, fun _ _ => 0, ⟨#[], #[.agg #[.int .i64 0, .int .i64 0, .string ByteArray.empty, .string ByteArray.empty, .int .i64 0, .string ByteArray.empty, .string ByteArray.empty, .slice none 0 0, .slice none 0 0]], []⟩, World.laidAll_os _ _ _, shaped os, (Input.okWide_of_okWideB (base := 0) hok).1, (Input.okWide_of_okWideB hok).2, OpenSpec.preRow_of_cond 8 hx rfl (fun k hk => by cases hk) (by kernel_rfl) (laid_met os), ?_⟩
  simp only [Assume.holds]
  exact ⟨by simp, by simp, fun _ => Modest.zero, by simp, by simp⟩
set_option maxRecDepth 100000 in
theorem lifted (os : Os) (started : os.Started) (H : Type) (enc : TypeId × Value → H) (F : Stop.Interp) :
    ReturnsInHanded {} Tryz.checked os 6 .any ((OpenSpec.ofChange Rows.fnExactNotePutSpec).preRow enc Tryz.prog Tryz.f6 Rows.fnExactNotePutRow.domain false Rows.fnExactNotePutRow.laid) (((OpenSpec.ofChange Rows.fnExactNotePutSpec).at F).post enc Tryz.prog Tryz.f6 false true false false) := by
  refine returnsInHanded_of_row (C := Tryz.checked) (s := OpenSpec.ofChange Rows.fnExactNotePutSpec) own started (by kernel_rfl) Tryz.func6 (witness os enc) ?_
  intro W base args ds gs before hval hW _ _ _ hL hsh _
  exact contract H enc W base args ds gs before hval hW (gok hsh hL)
theorem said : Rows.FnExactNotePutSaid :=
  OpenClaim.holds_of_cond 6 Tryz.f6 rfl rfl rfl rfl rfl rfl rfl ⟨rfl, rfl, rfl, rfl, rfl⟩ rfl rfl rfl rfl rfl (by kernel_rfl) Tryz.func6 (by kernel_rfl)
    (of_decide_eq_true (by kernel_rfl)) (by unfold Func.isWrapper; first | (rw [if_pos (by decide +kernel)]; kernel_rfl) | (rw [if_neg (by decide +kernel)]; exact ⟨rfl, rfl⟩))
    (fun os started H enc _ F => by rw [OpenClaim.pre_eq_preRow]; exact lifted os started H enc F)
theorem plain (f : FuncId) (fn : Func) (hf : Tryz.pinned.checked.prog.funcNamed "loop.example/satchel/laws.FnExactNotePut" = some f) (hfn : Tryz.pinned.checked.prog.funcs[f]? = some fn) :
    true = Tryz.pinned.checked.prog.looks [] ∧ ∀ (j : Nat) t, fn.params[j]? = some t → Tryz.pinned.checked.prog.wantsStandIn t = false := by
  obtain rfl : f = 6 := Option.some.inj ((show Tryz.prog.funcNamed "loop.example/satchel/laws.FnExactNotePut" = some 6 by kernel_rfl).symm.trans hf) |>.symm
  obtain rfl : fn = Tryz.f6 := (Option.some.inj (Tryz.func6.symm.trans hfn)).symm
  refine ⟨by kernel_rfl, fun j t ht => ?_⟩
  rw [Tryz.params6] at ht
  have hm : t ∈ [46] := by simpa using Array.mem_of_getElem? ht
  have hall : ([46].all fun u => !Tryz.prog.wantsStandIn u) = true := by kernel_rfl
  exact (show Tryz.prog.wantsStandIn t = false by simpa using List.all_eq_true.1 hall t hm)
theorem card : Rows.FnExactNotePutCardSaid :=
  Claim7.holds_tied_plain_at .later [] _ _ _ _ said (fun _ h => by cases h) (by kernel_rfl) (fun _ h => by cases h) fnExactNotePut_row_tie rfl ⟨rfl, rfl⟩ (by kernel_rfl) rfl plain (by kernel_rfl)
end Go.Proofs.YtjdpdkdhfnpcgaaGreatDoor.fnExactNotePut
namespace Go.Proofs.YtjdpdkdhfnpcgaaGreatDoor
theorem fnExactNotePut_holds : Rows.FnExactNotePutCardSaid := fnExactNotePut.card
end Go.Proofs.YtjdpdkdhfnpcgaaGreatDoor
