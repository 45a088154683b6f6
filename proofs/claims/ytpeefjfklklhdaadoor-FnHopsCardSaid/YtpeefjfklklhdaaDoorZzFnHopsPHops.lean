/- Of a text of ours what this claim needs. -/
import Derived.Test.YtpeefjfklklhdaaDoorZzFnHopsPBody
import Derived.Test.YtpeefjfklklhdaaDoorZzFnHopsPStr
import Derived.Test.YtpeefjfklklhdaaDoorZzFnHopsQ13
import Derived.Test.YtpeefjfklklhdaaDoorZzFnHopsQ15
namespace Go.Proofs.YtpeefjfklklhdaaDoor.Q
open Go.RowKit Go.Proofs.YtpeefjfklklhdaaDoorW.PrintWords Go.Proofs.YtpeefjfklklhdaaDoorW.PrintLast Go.Proofs.YtpeefjfklklhdaaDoorW.PrintMore
set_option linter.unusedVariables false
set_option linter.unusedSimpArgs false
def HOP : List UInt8 := [72, 111, 112, 58, 32]
def hopL (s : ByteArray) : Bool := Lib.hasPrefix (LL s) HOP && domL ((LL s).drop 5)
def hopsN (l : List ByteArray) : Nat := (l.takeWhile hopL).length
theorem domL_nil : domL [] = false := by
  unfold domL
  rw [cuts_none (by rfl)]
  rfl
theorem hop_cons (s : ByteArray) (l : List ByteArray) : hopsN (s :: l) = if hopL s = true then hopsN l + 1 else 0 := by
  unfold hopsN
  rw [List.takeWhile_cons]
  split <;> rfl
theorem prefix_take (l p : List UInt8) (h : p.length ≤ l.length) : Lib.hasPrefix l p = true ↔ l.take p.length = p := by
  rw [← Lib.hasPrefix_of_take]
  simp [h]
theorem l2Hops_loop (l : List ByteArray) (hm : l.length ≤ 1000000) (hs : ∀ s ∈ l, s.size ≤ 1048576) : ∀ d i : Nat, i + d = l.length → Ev (fun k => spec_l2Hops.l0 k l (i : Int)) (((i + hopsN (l.drop i) : Nat) : Int)) := by
  intro d
  induction d with
  | zero =>
    intro i hi
    refine Ev.step (fun k => by rw [spec_l2Hops.l0]) ?_
    refine Ev.neg (by omega) (Ev.eq (Ev.ret _) ?_)
    rw [List.drop_of_length_le (by omega)]
    rfl
  | succ d ih =>
    intro i hi
    have hz := hs _ (mem_rd l i (by omega))
    have hn := ih (i + 1) (by omega)
    rw [drop_rd l i (by omega), hop_cons]
    refine Ev.step (fun k => by rw [spec_l2Hops.l0]) ?_
    refine Ev.pos (by omega) (Ev.pos (by omega) ?_)
    rw [wsucc (by omega)]
    generalize rdOf ByteArray.empty l (i : Int) = s at *
    have hsz := size_LL s
    by_cases h5 : (s.size : Int) > 5
    · refine Ev.pos h5 (Ev.pos (by omega) (Ev.pos (by omega) ?_))
      have hpt := prefix_take (LL s) HOP (by show 5 ≤ _; omega)
      have hex : (s.extract 0 5).toList = ([72, 111, 112, 58, 32] : List UInt8) ↔ (LL s).take 5 = HOP := by
        rw [toList_LL, LL_extract, List.drop_zero]; rfl
      by_cases h1 : (LL s).take 5 = HOP
      · refine Ev.pos (hex.2 h1) ?_
        have hd := l1Domain_ev (s.extract 5 s.size) (by rw [size_extract s 5 s.size (by omega) (by omega)]; omega)
        have he : LL (s.extract 5 s.size) = (LL s).drop 5 := by rw [LL_extract, List.take_of_length_le (by rw [List.length_drop]; omega)]
        rw [he] at hd
        refine Ev.bnd hd ?_
        have hhp : Lib.hasPrefix (LL s) HOP = true := hpt.2 h1
        by_cases h2 : domL ((LL s).drop 5) = true
        · have : hopL s = true := by unfold hopL; rw [hhp, h2]; rfl
          refine Ev.pos h2 (Ev.eq hn ?_)
          rw [if_pos this]
          omega
        · have : ¬ hopL s = true := by unfold hopL; rw [hhp, Bool.true_and]; exact h2
          refine Ev.neg h2 (Ev.eq (Ev.ret _) ?_)
          rw [if_neg this]
          rfl
      · have : ¬ hopL s = true := by
          unfold hopL
          rw [Bool.and_eq_true]
          exact fun e => h1 (hpt.1 e.1)
        refine Ev.neg (fun e => h1 (hex.1 e)) (Ev.eq (Ev.ret _) ?_)
        rw [if_neg this]
        rfl
    · have : ¬ hopL s = true := by
        unfold hopL
        rw [List.drop_of_length_le (by omega), domL_nil, Bool.and_false]
        simp
      refine Ev.neg h5 (Ev.eq (Ev.ret _) ?_)
      rw [if_neg this]
      rfl
theorem l2Hops_ev (l : List ByteArray) (hm : l.length ≤ 1000000) (hs : ∀ s ∈ l, s.size ≤ 1048576) : Ev (fun k => spec_l2Hops.f k l) ((hopsN l : Nat) : Int) := by
  have := l2Hops_loop l hm hs l.length 0 (by omega)
  rw [Nat.zero_add, List.drop_zero] at this
  exact this
theorem hops1_ev (s : ByteArray) (hs : s.size ≤ 1048576) : Ev (fun k => impl_hops_1.f k s) (!hopL s) := by
  have hsz := size_LL s
  unfold impl_hops_1.f
  refine Ev.bnd (Ev.k (cutPrefix_f s _)) ?_
  unfold hopL
  by_cases h : Lib.hasPrefix (LL s) HOP = true
  · have h' : Lib.hasPrefix (LL s) (LL (⟨#[72, 111, 112, 58, 32]⟩ : ByteArray)) = true := h
    rw [if_pos h', h, Bool.true_and]
    have hd := implDomainOk_ev (BB ((LL s).drop 5)) (by rw [size_BB, List.length_drop]; omega)
    rw [LL_BB] at hd
    exact Ev.pos rfl (Ev.bnd hd (Ev.ret _))
  · have h' : ¬ Lib.hasPrefix (LL s) (LL (⟨#[72, 111, 112, 58, 32]⟩ : ByteArray)) = true := h
    rw [if_neg h']
    rw [Bool.not_eq_true] at h
    rw [h]
    exact Ev.neg (by simp) (Ev.ret _)
theorem indexHops_loop (l : List ByteArray) (hm : l.length ≤ 1000000) (hs : ∀ s ∈ l, s.size ≤ 1048576) : ∀ d i : Nat, i + d = l.length →
    ∃ r, Ev (fun k => slices_IndexFunc_string_string_at111.l0 k l (l.length : Int) (i : Int)) r ∧ (if r < 0 then (l.length : Int) else r) = ((i + hopsN (l.drop i) : Nat) : Int) := by
  intro d
  induction d with
  | zero =>
    intro i hi
    refine ⟨-1, Ev.step (fun k => by rw [slices_IndexFunc_string_string_at111.l0]) (Ev.neg (by omega) (Ev.ret _)), ?_⟩
    rw [List.drop_of_length_le (by omega), if_pos (by omega)]
    show _ = ((i + 0 : Nat) : Int)
    omega
  | succ d ih =>
    intro i hi
    have hz := hs _ (mem_rd l i (by omega))
    rw [drop_rd l i (by omega), hop_cons]
    have he := hops1_ev _ hz
    by_cases h : hopL (rdOf ByteArray.empty l (i : Int)) = true
    · obtain ⟨r, hr, hd⟩ := ih (i + 1) (by omega)
      rw [h] at he
      refine ⟨r, ?_, ?_⟩
      · refine Ev.step (fun k => by rw [slices_IndexFunc_string_string_at111.l0]) ?_
        refine Ev.pos (by omega) (Ev.pos (by omega) (Ev.pos (by omega) (Ev.bnd he (Ev.neg (by simp) ?_))))
        rw [wsucc (by omega)]
        exact hr
      · rw [hd, if_pos h]
        omega
    · rw [if_neg h]
      rw [Bool.not_eq_true] at h
      rw [h] at he
      refine ⟨(i : Int), Ev.step (fun k => by rw [slices_IndexFunc_string_string_at111.l0]) (Ev.pos (by omega) (Ev.pos (by omega) (Ev.pos (by omega) (Ev.bnd he (Ev.pos rfl (Ev.ret _)))))), ?_⟩
      rw [if_neg (by omega)]
      omega
theorem implHops_ev (l : List ByteArray) (hm : l.length ≤ 1000000) (hs : ∀ s ∈ l, s.size ≤ 1048576) : Ev (fun k => impl_hops.f k l) ((hopsN l : Nat) : Int) := by
  unfold impl_hops.f
  obtain ⟨r, hr, hd⟩ := indexHops_loop l hm hs l.length 0 (by omega)
  rw [Nat.zero_add, List.drop_zero] at hd
  have hr' : Ev (fun k => slices_IndexFunc_string_string_at111.f k l) r := hr
  refine Ev.bnd hr' ?_
  rw [← hd]
  by_cases h : r < 0
  · exact Ev.eq (Ev.pos h (Ev.ret _)) (if_pos h).symm
  · exact Ev.eq (Ev.neg h (Ev.ret _)) (if_neg h).symm
def hopsOf (l : List ByteArray) : Int := if bodyOk l = true then ((hopsN l : Nat) : Int) else -1
theorem specHopsOf_ev (l : List ByteArray) (hm : l.length ≤ 9223372036854775807) (hs : ∀ s ∈ l, s.size ≤ 9223372036854775807) : Ev (fun k => spec_HopsOf.f k l) (hopsOf l) := by
  unfold spec_HopsOf.f hopsOf
  refine Ev.bnd (l2BodyOk_ev l hm hs) ?_
  by_cases h : bodyOk l = true
  · have hp := bodyOk_parts h
    exact Ev.eq (Ev.pos h (Ev.bnd (l2Hops_ev l (by omega) (fun s hs => by have := hp.2 s hs; omega)) (Ev.ret _))) (if_pos h).symm
  · exact Ev.eq (Ev.neg h (Ev.ret _)) (if_neg h).symm
theorem implHopsOf_ev (l : List ByteArray) (hm : l.length ≤ 9223372036854775807) (hs : ∀ s ∈ l, s.size ≤ 9223372036854775807) : Ev (fun k => impl_HopsOf.f k l) (hopsOf l) := by
  unfold impl_HopsOf.f hopsOf
  refine Ev.bnd (isBody_ev l hm hs) ?_
  by_cases h : bodyOk l = true
  · have hp := bodyOk_parts h
    exact Ev.eq (Ev.pos h (Ev.bnd (implHops_ev l (by omega) (fun s hs => by have := hp.2 s hs; omega)) (Ev.ret _))) (if_pos h).symm
  · exact Ev.eq (Ev.neg h (Ev.ret _)) (if_neg h).symm
end Go.Proofs.YtpeefjfklklhdaaDoor.Q
