/- What is proved: FnExactCliOk holds of the given program: laws.FnExactCliOk: for every input that can be read the call returns true, and each argument reads behind it as before. A tied card: the listed variables of Go's library start as their text lays them. -/
import Derived.Test.YthkibaldmjfmmaaDoorRows
import Derived.Test.YthkibaldmjfmmaaDoorZzFnExactCliOkWQ36
import Derived.Test.YthkibaldmjfmmaaDoorZzFnExactCliOkWPl0
import Derived.Test.YthkibaldmjfmmaaDoorZzFnExactCliOkWHOpen
import Derived.Test.YthkibaldmjfmmaaDoorZzFnExactCliOkWHSplit
import Derived.Test.YthkibaldmjfmmaaDoorCards
import Derived.Test.YthkibaldmjfmmaaDoorTie
import Derived.WalkKit
import Derived.ProofKit
import Derived.OpenShut
import Derived.ShutString
import Derived.ChangeOld
import Derived.Below
import Derived.SizedLaws
import Derived.HandedShaped
import Derived.Shelf.Vars
import Derived.WideShapes
import Derived.Deep.DeepHandedRow
import Derived.LaidMore
import Derived.Lay
import Derived.SevenTiedAt
import Derived.Stop.Joined
namespace Go.Proofs.YthkibaldmjfmmaaDoor.fnExactCliOk
open Go.ChangeShapes Go.WideShapes Go.ChangeAt Go.RowKit Go.Proofs.YthkibaldmjfmmaaDoor.Q Go.Proofs.YthkibaldmjfmmaaDoorW.PrintWords Go.Proofs.YthkibaldmjfmmaaDoorW.PrintLast Go.Proofs.YthkibaldmjfmmaaDoorW.PrintMore
open Go.ChangeMaps (open_string shut_string)
set_option linter.unusedVariables false
set_option linter.unusedSimpArgs false
theorem own : ownKnob Tryd.prog.godebug = none := by kernel_rfl
theorem laidOut : laidOutB Tryd.prog = true := by kernel_rfl
theorem opens23 : Opens Tryd.prog k23 23 (fun x => x.f0.size ≤ maxLen ∧ x.f1.size ≤ maxLen) := by
  refine ⟨fun {H enc w base spare held fuel cs x} hf => ?_⟩
  have hz := (trod_fields Tryd.underlying23 hf).1
  rw [show Tryd.prog.cellsOf 23 = 2 by kernel_rfl] at hz
  obtain ⟨e0, e1, rfl⟩ := list2 hz
  obtain ⟨y0, q0⟩ := fields_at Tryd.underlying23 hf 0 9 [e0] ⟨rfl, rfl, by kernel_rfl⟩ (by rfl)
  obtain ⟨a0, z0, w0⟩ := (Opens.string Tryd.underlying9).out q0
  obtain rfl := (List.cons.inj z0).1
  obtain ⟨y1, q1⟩ := fields_at Tryd.underlying23 hf 1 9 [e1] ⟨rfl, rfl, by kernel_rfl⟩ (by rfl)
  obtain ⟨a1, z1, w1⟩ := (Opens.string Tryd.underlying9).out q1
  obtain rfl := (List.cons.inj z1).1
  exact ⟨⟨a0, a1⟩, k23_mk _ _, w0, w1⟩
theorem gok {W : World} (h : W.ShapedOpen Tryd.prog) : GOK W := Go.Proofs.cell_of_shapedOpen_int h (of_decide_eq_true (by kernel_rfl)) (t := 3) (zero := #[.int .i64 0]) (by kernel_rfl) rfl (by kernel_rfl) (by kernel_rfl) Tryd.underlying3
set_option maxHeartbeats 4000000 in
set_option maxRecDepth 100000 in
theorem contract (H : Type) (enc : TypeId × Value → H) (W : World) (base : Nat) (args : Array Value) (ds gs : List (DataW H)) (before : List MemPlace)
    (hval0 : ∀ (j : Nat) t v, Tryd.f7.params[j]? = some t → args[j]? = some v → Value.okWide Tryd.prog W .any base t v)
    (hW : DataW.Whole enc Tryd.prog Tryd.f7.params.toList Rows.fnExactCliOkSpec.vars false W args.toList ds gs before) (hG : GOK W) :
    Calls Tryd.prog 7 args W fun e W' => ∃ v, e = .returned v ∧ Rows.fnExactCliOkSpec.post enc Tryd.prog Tryd.f7 false true false false W args v W' := by
  have hval : ∀ (j : Nat) t v, Tryd.f7.params[j]? = some t → args[j]? = some v → Value.okWide Tryd.prog W .any base t v := hval0
  have hW' := hW
  obtain ⟨p, q, hA0, hV, rfl, hfz, hnd⟩ := hW
  have hA : DataW.TrodAll enc Tryd.prog W 0 (fun _ => true) true Tryd.f7.params.toList args.toList ds p := hA0
  rw [Tryd.params7] at hA hval
  obtain ⟨v0, vs0, d0, ds0, p0, q0, hargs, rfl, rfl, h0, r0⟩ := trodAll_cons hA
  obtain ⟨rfl, rfl, rfl⟩ := trodAll_nil r0
  obtain rfl : args = #[v0] := by cases args; simp_all
  obtain ⟨rfl, rfl⟩ := trodVars_none hV
  have k0 := h0
  have lt0 : ∀ x ∈ p0, x.block < W.heap.size := by obtain ⟨m, hm⟩ := k0; exact DataW.trod_lt m _ _ _ hm
  obtain ⟨fuel0, hf0⟩ := h0
  obtain ⟨cs0, rfl, hz0⟩ := okWide_struct Tryd.underlying63 (hval 0 63 v0 rfl rfl)
  rw [show Tryd.prog.cellsOf 63 = 8 by kernel_rfl] at hz0
  obtain ⟨cl0⟩ := cs0
  simp only [List.size_toArray] at hz0
  obtain ⟨e0_0, e0_1, e0_2, e0_3, e0_4, e0_5, e0_6, e0_7, rfl⟩ := list8 hz0
  have hf0 : DataW.trod enc Tryd.prog W 0 (fun _ => true) true fuel0 63 [e0_0, e0_1, e0_2, e0_3, e0_4, e0_5, e0_6, e0_7] = some (d0, p0) := hf0
  obtain ⟨yhf0_0, hf0_0⟩ := fields_at Tryd.underlying63 hf0 0 9 [e0_0] ⟨rfl, rfl, by kernel_rfl⟩ (by rfl)
  obtain ⟨yhf0_1, hf0_1⟩ := fields_at Tryd.underlying63 hf0 1 27 [e0_1, e0_2, e0_3, e0_4] ⟨rfl, rfl, by kernel_rfl⟩ (by rfl)
  obtain ⟨yhf0_1_0, hf0_1_0⟩ := fields_at Tryd.underlying27 hf0_1 0 23 [e0_1, e0_2] ⟨rfl, rfl, by kernel_rfl⟩ (by rfl)
  obtain ⟨yhf0_1_0_0, hf0_1_0_0⟩ := fields_at Tryd.underlying23 hf0_1_0 0 9 [e0_1] ⟨rfl, rfl, by kernel_rfl⟩ (by rfl)
  obtain ⟨yhf0_1_0_1, hf0_1_0_1⟩ := fields_at Tryd.underlying23 hf0_1_0 1 9 [e0_2] ⟨rfl, rfl, by kernel_rfl⟩ (by rfl)
  obtain ⟨yhf0_1_1, hf0_1_1⟩ := fields_at Tryd.underlying27 hf0_1 1 24 [e0_3] ⟨rfl, rfl, by kernel_rfl⟩ (by rfl)
  obtain ⟨yhf0_1_2, hf0_1_2⟩ := fields_at Tryd.underlying27 hf0_1 2 25 [e0_4] ⟨rfl, rfl, by kernel_rfl⟩ (by rfl)
  obtain ⟨yhf0_2, hf0_2⟩ := fields_at Tryd.underlying63 hf0 2 3 [e0_5] ⟨rfl, rfl, by kernel_rfl⟩ (by rfl)
  obtain ⟨yhf0_3, hf0_3⟩ := fields_at Tryd.underlying63 hf0 3 3 [e0_6] ⟨rfl, rfl, by kernel_rfl⟩ (by rfl)
  obtain ⟨yhf0_4, hf0_4⟩ := fields_at Tryd.underlying63 hf0 4 61 [e0_7] ⟨rfl, rfl, by kernel_rfl⟩ (by rfl)
  obtain ⟨a0_0, z0_0, w0_0⟩ := (Opens.string Tryd.underlying9).out hf0_0
  obtain rfl := (List.cons.inj z0_0).1
  obtain ⟨a0_1, z0_1, w0_1⟩ := (Opens.string Tryd.underlying9).out hf0_1_0_0
  obtain rfl := (List.cons.inj z0_1).1
  obtain ⟨a0_2, z0_2, w0_2⟩ := (Opens.string Tryd.underlying9).out hf0_1_0_1
  obtain rfl := (List.cons.inj z0_2).1
  obtain ⟨l0_3, ⟨A0_3, c0_3, z0_3, hl0_3, hC0_3⟩, w0_3⟩ := (Opens.slice Tryd.underlying24 (by kernel_rfl) opens23).out hf0_1_1
  obtain rfl := (List.cons.inj z0_3).1
  obtain ⟨l0_4, ⟨A0_4, c0_4, z0_4, hl0_4, hC0_4⟩, w0_4⟩ := (Opens.slice Tryd.underlying25 (by kernel_rfl) (Opens.string Tryd.underlying9)).out hf0_1_2
  obtain rfl := (List.cons.inj z0_4).1
  obtain ⟨a0_5, z0_5, w0_5⟩ := (Opens.int Tryd.underlying3).out hf0_2
  obtain rfl := (List.cons.inj z0_5).1
  obtain ⟨a0_6, z0_6, w0_6⟩ := (Opens.int Tryd.underlying3).out hf0_3
  obtain rfl := (List.cons.inj z0_6).1
  obtain ⟨l0_7, ⟨A0_7, c0_7, z0_7, hl0_7, hC0_7⟩, w0_7⟩ := (Opens.slice Tryd.underlying61 (by kernel_rfl) (Opens.int Tryd.underlying3)).out hf0_4
  obtain rfl := (List.cons.inj z0_7).1
  obtain ⟨k, hk⟩ := fnExactCliOk_pure a0_0 a0_1 a0_2 l0_3 l0_4 a0_5 a0_6 l0_7 w0_0 w0_1 w0_2 w0_3 w0_4 w0_5 w0_6 w0_7
  refine (laws_FnExactCliOk.calls k a0_0 a0_1 a0_2 _ _ l0_3 _ _ l0_4 a0_5 a0_6 _ _ l0_7 true W hC0_3 hl0_3 hC0_4 hl0_4 hC0_7 hl0_7 hG hk).mono fun e W' ⟨he, bel0⟩ => ?_
  have bel : Below W.heap.size W W' := bel0
  subst he
  exact ⟨_, rfl, _, _, _, [], _, [], hW', trodAll_mk1 (shut_bool Tryd.underlying4 _), (trodAll_cons_mk (Below.trod laidOut (by kernel_rfl) (of_decide_eq_true (by kernel_rfl)) k0 bel lt0) trodAll_mk0), rfl, bel.frame _, fun h => by cases h⟩
noncomputable def w0 (os : Os) : World := World.laidAll Tryd.prog os Rows.fnExactCliOkRow.laid
theorem laid_met (os : Os) : laidMetH Tryd.prog Rows.fnExactCliOkRow.laid ((w0 os).forCall (fun _ _ => 0) ⟨#[], #[.agg #[.string ByteArray.empty, .string ByteArray.empty, .string ByteArray.empty, .slice none 0 0, .slice none 0 0, .int .i64 0, .int .i64 0, .slice none 0 0]], []⟩).memory := by
  rw [MakeChecks.laidMetH_plain _ _ _ (by kernel_rfl)]
  exact laidMet_laidAll _ (by kernel_rfl) (by kernel_rfl)
theorem shaped (os : Os) : ((w0 os).forCall (fun _ _ => 0) ⟨#[], #[.agg #[.string ByteArray.empty, .string ByteArray.empty, .string ByteArray.empty, .slice none 0 0, .slice none 0 0, .int .i64 0, .int .i64 0, .slice none 0 0]], []⟩).Shaped Tryd.prog := World.shaped_of_ZipB (by kernel_rfl) (by kernel_rfl)
set_option maxRecDepth 100000 in
theorem witness (os : Os) {H : Type} (enc : TypeId × Value → H) : ∃ (w : World) (tape : Tape) (i : Input), w.os = os ∧ (w.forCall tape i).Shaped Tryd.checked.prog ∧ i.vars = [] ∧ Input.okWide Tryd.checked.prog (w.forCall tape i) .any w.heap.size 7 i ∧
    (OpenSpec.ofChange Rows.fnExactCliOkSpec).preRow enc Tryd.checked.prog Tryd.f7 Rows.fnExactCliOkRow.domain false Rows.fnExactCliOkRow.laid (w.forCall tape i).memory i.args ∧ ({} : Assume).holds Tryd.checked.prog (lone (Frame.enter Tryd.checked.prog 7 i.args .normal) [] (w.forCall tape i)) := by
  have hok : Input.okWideB Tryd.checked.prog ((w0 os).forCall (fun _ _ => 0) ⟨#[], #[.agg #[.string ByteArray.empty, .string ByteArray.empty, .string ByteArray.empty, .slice none 0 0, .slice none 0 0, .int .i64 0, .int .i64 0, .slice none 0 0]], []⟩) 7 ⟨#[], #[.agg #[.string ByteArray.empty, .string ByteArray.empty, .string ByteArray.empty, .slice none 0 0, .slice none 0 0, .int .i64 0, .int .i64 0, .slice none 0 0]], []⟩ = true := by kernel_rfl
  have hs : (DataW.whole enc Tryd.checked.prog ((w0 os).forCall (fun _ _ => 0) ⟨#[], #[.agg #[.string ByteArray.empty, .string ByteArray.empty, .string ByteArray.empty, .slice none 0 0, .slice none 0 0, .int .i64 0, .int .i64 0, .slice none 0 0]], []⟩).memory Tryd.f7.params.toList (OpenSpec.ofChange Rows.fnExactCliOkSpec).vars false (#[.agg #[.string ByteArray.empty, .string ByteArray.empty, .string ByteArray.empty, .slice none 0 0, .slice none 0 0, .int .i64 0, .int .i64 0, .slice none 0 0]] : Array Value).toList 8).isSome = true := by kernel_rfl
  obtain ⟨x, hx⟩ := Option.isSome_iff_exists.1 hs
  refine ⟨w0 os, fun _ _ => 0, ⟨#[], #[.agg #[.string ByteArray.empty, .string ByteArray.empty, .string ByteArray.empty, .slice none 0 0, .slice none 0 0, .int .i64 0, .int .i64 0, .slice none 0 0]], []⟩, World.laidAll_os _ _ _, shaped os, (Input.okWide_of_okWideB (base := 0) hok).1, (Input.okWide_of_okWideB hok).2, OpenSpec.preRow_of_cond 8 hx rfl (fun k hk => by cases hk) (by kernel_rfl) (laid_met os), ?_⟩
  simp only [Assume.holds]
  exact ⟨by simp, by simp, fun _ => Modest.zero, by simp, by simp⟩
set_option maxRecDepth 100000 in
theorem lifted (os : Os) (started : os.Started) (H : Type) (enc : TypeId × Value → H) (F : Stop.Interp) :
    ReturnsInHanded {} Tryd.checked os 7 .any ((OpenSpec.ofChange Rows.fnExactCliOkSpec).preRow enc Tryd.prog Tryd.f7 Rows.fnExactCliOkRow.domain false Rows.fnExactCliOkRow.laid) (((OpenSpec.ofChange Rows.fnExactCliOkSpec).at F).post enc Tryd.prog Tryd.f7 false true false false) := by
  refine returnsInHanded_of_row (C := Tryd.checked) (s := OpenSpec.ofChange Rows.fnExactCliOkSpec) own started (by kernel_rfl) Tryd.func7 (witness os enc) ?_
  intro W base args ds gs before hval hW _ _ _ _ hsh _
  exact contract H enc W base args ds gs before hval hW (gok hsh)
theorem said : Rows.FnExactCliOkSaid :=
  OpenClaim.holds_of_cond 7 Tryd.f7 rfl rfl rfl rfl rfl rfl rfl ⟨rfl, rfl, rfl, rfl, rfl⟩ rfl rfl rfl rfl rfl (by kernel_rfl) Tryd.func7 (by kernel_rfl)
    (of_decide_eq_true (by kernel_rfl)) (by unfold Func.isWrapper; first | (rw [if_pos (by decide +kernel)]; kernel_rfl) | (rw [if_neg (by decide +kernel)]; exact ⟨rfl, rfl⟩))
    (fun os started H enc _ F => by rw [OpenClaim.pre_eq_preRow]; exact lifted os started H enc F)
theorem plain (f : FuncId) (fn : Func) (hf : Tryd.pinned.checked.prog.funcNamed "loop.example/satchel/laws.FnExactCliOk" = some f) (hfn : Tryd.pinned.checked.prog.funcs[f]? = some fn) :
    false = Tryd.pinned.checked.prog.looks [] ∧ ∀ (j : Nat) t, fn.params[j]? = some t → Tryd.pinned.checked.prog.wantsStandIn t = false := by
  obtain rfl : f = 7 := Option.some.inj ((show Tryd.prog.funcNamed "loop.example/satchel/laws.FnExactCliOk" = some 7 by kernel_rfl).symm.trans hf) |>.symm
  obtain rfl : fn = Tryd.f7 := (Option.some.inj (Tryd.func7.symm.trans hfn)).symm
  refine ⟨by kernel_rfl, fun j t ht => ?_⟩
  rw [Tryd.params7] at ht
  have hm : t ∈ [63] := by simpa using Array.mem_of_getElem? ht
  have hall : ([63].all fun u => !Tryd.prog.wantsStandIn u) = true := by kernel_rfl
  exact (show Tryd.prog.wantsStandIn t = false by simpa using List.all_eq_true.1 hall t hm)
theorem card : Rows.FnExactCliOkCardSaid :=
  Claim7.holds_tied_plain_at .later [] _ _ _ _ said (fun _ h => by cases h) (by kernel_rfl) (fun _ h => by cases h) fnExactCliOk_row_tie rfl ⟨rfl, rfl⟩ (by kernel_rfl) rfl plain (by kernel_rfl)
end Go.Proofs.YthkibaldmjfmmaaDoor.fnExactCliOk
namespace Go.Proofs.YthkibaldmjfmmaaDoor
theorem fnExactCliOk_holds : Rows.FnExactCliOkCardSaid := fnExactCliOk.card
end Go.Proofs.YthkibaldmjfmmaaDoor
