/- Of a text of ours what this claim needs. -/
import Derived.Test.YtbabdndgaafoaaaZDPPLines
import Derived.Test.YtbabdndgaafoaaaZDPPBody
import Derived.Test.YtbabdndgaafoaaaZDPQ1
import Derived.Test.YtbabdndgaafoaaaZDPQ0
import Derived.Test.YtbabdndgaafoaaaZDPQ20
import Derived.Test.YtbabdndgaafoaaaZDPQ3
import Derived.Test.YtbabdndgaafoaaaZDPQ2
import Derived.Test.YtbabdndgaafoaaaZDPQ8
import Derived.Test.YtbabdndgaafoaaaZDPQ9
namespace Go.Proofs.Ytbabdndgaafoaaa.Q
open Go.RowKit Go.Proofs.YtbabdndgaafoaaaW.PrintWords Go.Proofs.YtbabdndgaafoaaaW.PrintLast Go.Proofs.YtbabdndgaafoaaaW.PrintMore
set_option linter.unusedVariables false
set_option linter.unusedSimpArgs false
theorem litePrefix2_f (a b : ByteArray) : stringslite_HasPrefix.f a b = some (Lib.hasPrefix (LL a) (LL b)) := by
  unfold stringslite_HasPrefix.f
  rw [← Lib.hasPrefix_of_take]
  by_cases h : (a.size : Int) ≥ (b.size : Int)
  · rw [if_pos h, if_pos (by omega), if_pos (by omega), Int.toNat_natCast, toList_LL, toList_LL, LL_extract]
    have : decide ((LL b).length ≤ (LL a).length) = true := by rw [← size_LL, ← size_LL]; simp; omega
    rw [this, Bool.true_and, List.drop_zero, Nat.sub_zero, size_LL]
  · rw [if_neg h]
    have : decide ((LL b).length ≤ (LL a).length) = false := by rw [← size_LL, ← size_LL]; simp; omega
    rw [this]
    rfl
theorem trimPrefix_f (a b : ByteArray) : strings_TrimPrefix.f a b = some (BB (Lib.trimPrefix (LL a) (LL b))) := by
  unfold strings_TrimPrefix.f stringslite_TrimPrefix.f
  rw [litePrefix2_f]
  unfold Lib.trimPrefix
  simp only [Option.bind_some]
  by_cases h : Lib.hasPrefix (LL a) (LL b) = true
  · have hle : b.size ≤ a.size := by
      rw [← Lib.hasPrefix_of_take] at h
      simp only [Bool.and_eq_true, decide_eq_true_eq] at h
      rw [size_LL, size_LL]
      exact h.1
    rw [if_pos h, if_pos h, if_pos (by omega), if_pos (by omega), Int.toNat_natCast, extract_BB, size_LL, size_LL b]
    simp only [Option.bind_some]
    rw [List.take_of_length_le (by rw [List.length_drop]; exact Nat.le_refl _)]
  · rw [if_neg h, if_neg h, BB_LL]
    rfl
def dotPut (ls : List ByteArray) : ByteArray := if bodyOk ls = true then BB (dots ls) else ⟨#[]⟩
theorem specDotPut_ev (l : List ByteArray) (hm : l.length ≤ 9223372036854775807) (hs : ∀ s ∈ l, s.size ≤ 9223372036854775807) : Ev (fun k => spec_DotPut.f k l) (dotPut l) := by
  unfold spec_DotPut.f dotPut
  refine Ev.bnd (l2BodyOk_ev l hm hs) ?_
  by_cases h : bodyOk l = true
  · rw [if_pos h]
    refine Ev.pos h ?_
    have h1 := bodyOk_parts h
    have h2 := bodyOk_dots h
    exact Ev.bnd (l2Dots_ev l (by omega) (by omega)) (Ev.ret _)
  · rw [if_neg h]
    exact Ev.neg h (Ev.ret _)
theorem implDotPut_ev (l : List ByteArray) (hm : l.length ≤ 9223372036854775807) (hs : ∀ s ∈ l, s.size ≤ 9223372036854775807) : Ev (fun k => impl_DotPut.f k l) (dotPut l) := by
  unfold impl_DotPut.f dotPut
  refine Ev.bnd (isBody_ev l hm hs) ?_
  by_cases h : bodyOk l = true
  · have h2 := bodyOk_dots h
    refine Ev.eq (Ev.pos h ?_) (if_pos h).symm
    rw [dotted_eq l (by omega)]
    exact Ev.bnd (Ev.ret _) (Ev.ret _)
  · exact Ev.eq (Ev.neg h (Ev.ret _)) (if_neg h).symm
def linesB (s : ByteArray) : List ByteArray × ByteArray := if 800 < s.size then ([], ⟨#[]⟩) else ((linesOf (LL s)).1.map BB, BB (linesOf (LL s)).2)
theorem implLinesOf_ev (s : ByteArray) : Ev (fun k => impl_LinesOf.f k s) (linesB s) := by
  unfold impl_LinesOf.f linesB
  by_cases h : 800 < s.size
  · exact Ev.eq (Ev.pos (by omega) (Ev.ret _)) (if_pos h).symm
  · exact Ev.eq (Ev.neg (by omega) (Ev.bnd (split_ev s (by omega)) (Ev.ret _))) (if_neg h).symm
theorem linesOf_len (n : Nat) : ∀ l : List UInt8, l.length = n → (linesOf l).1.length ≤ n ∧ ∀ t ∈ (linesOf l).1, t.length ≤ n := by
  induction n using Nat.strongRecOn with
  | _ n ih =>
    intro l hl
    by_cases h : 0 ≤ Lib.index l CRLF
    · obtain ⟨i, hi⟩ := int_of_nat h
      have hroom := Lib.index_room l CRLF h
      rw [hi, show CRLF.length = 2 from rfl] at hroom
      rw [linesOf_some hi]
      have := ih (n - (i + 2)) (by omega) (l.drop (i + 2)) (by rw [List.length_drop]; omega)
      refine ⟨by simp only [List.length_cons]; omega, fun t ht => ?_⟩
      rcases List.mem_cons.1 ht with rfl | ht
      · rw [List.length_take]; omega
      · have := this.2 t ht; omega
    · rw [linesOf_none (by omega)]
      exact ⟨by simp, by simp⟩
theorem linesB_len (s : ByteArray) : (linesB s).1.length ≤ 800 ∧ ∀ t ∈ (linesB s).1, t.size ≤ 800 := by
  unfold linesB
  split
  · exact ⟨by simp, by simp⟩
  · have := linesOf_len _ (LL s) rfl
    rw [← size_LL] at this
    refine ⟨by simp; omega, fun t ht => ?_⟩
    obtain ⟨u, hu, rfl⟩ := List.mem_map.1 ht
    rw [size_BB]
    have := this.2 u hu
    omega
def undot (s : ByteArray) : ByteArray := BB (Lib.trimPrefix (LL s) [46])
def dotGet (s : ByteArray) : List ByteArray × Bool :=
  let body := ((linesB s).1.dropLast).map undot
  if bodyOk body = true ∧ BB (dots body) = s then (body, true) else ([], false)
theorem undot_size (s : ByteArray) : (undot s).size ≤ s.size := by
  unfold undot Lib.trimPrefix
  rw [size_BB]
  split
  · rw [List.length_drop, size_LL]; omega
  · rw [size_LL]; exact Nat.le_refl _
theorem dropLast_take {α : Type} (l : List α) : l.dropLast = l.take (l.length - 1) := List.dropLast_eq_take
theorem implDotGet_loop (s : ByteArray) (y : List ByteArray) (hy : y.length ≤ 800) (hys : ∀ t ∈ y, t.size ≤ 800) : ∀ d i : Nat, i + d = y.length → ∀ out : List ByteArray, out = (y.take i).map undot →
    Ev (fun k => impl_DotGet.l0 k s out y (y.length : Int) (i : Int)) (if (dotPut (y.map undot)) = s then (y.map undot, true) else ([], false)) := by
  intro d
  induction d with
  | zero =>
    intro i hi out ho
    rw [List.take_of_length_le (by omega)] at ho
    subst ho
    refine Ev.step (fun k => by rw [impl_DotGet.l0]) ?_
    refine Ev.neg (by omega) ?_
    refine Ev.bnd (implDotPut_ev _ (by simp; omega) (fun t ht => ?_)) ?_
    · obtain ⟨u, hu, rfl⟩ := List.mem_map.1 ht
      have := hys u hu
      have := undot_size u
      omega
    · by_cases h : dotPut (y.map undot) = s
      · rw [if_pos h]
        exact Ev.pos (toList_eq.2 h) (Ev.ret _)
      · rw [if_neg h]
        exact Ev.neg (fun e => h (toList_eq.1 e)) (Ev.ret _)
  | succ d ih =>
    intro i hi out ho
    refine Ev.step (fun k => by rw [impl_DotGet.l0]) ?_
    refine Ev.pos (by omega) ?_
    refine Ev.pos (by omega) ?_
    refine Ev.pos (by omega) ?_
    refine Ev.bnd (Ev.k (trimPrefix_f _ _)) ?_
    refine Ev.pos (by rw [ho]; simp; omega) ?_
    rw [wsucc (by omega)]
    refine ih (i + 1) (by omega) _ ?_
    rw [ho, List.take_succ_eq_append_getElem (by omega), List.map_append, rd_get y i (by omega)]
    rfl
theorem noLines_dots (ls : List ByteArray) (h : (linesOf (dots ls)).1 = []) : False := by
  by_cases hi : 0 ≤ Lib.index (dots ls) CRLF
  · obtain ⟨i, hi'⟩ := int_of_nat hi
    rw [linesOf_some hi'] at h
    cases h
  · have h2 : Lib.index (dots ls) CRLF = -1 := by have := Lib.index_ge (dots ls) CRLF; omega
    rcases Lib.index_spec (dots ls) CRLF with ⟨_, h3⟩ | ⟨i, h3, _⟩
    · have hlen : (dots ls).length = (dotLines ls).length + 3 := by unfold dots; simp
      have h4 := h3 ((dotLines ls).length + 1) (by omega)
      rw [← Bool.not_eq_true, occ_iff] at h4
      apply h4
      unfold dots
      exact ⟨by rw [List.getElem?_append_right (by omega), show (dotLines ls).length + 1 - (dotLines ls).length = 1 by omega]; rfl, by rw [List.getElem?_append_right (by omega), show (dotLines ls).length + 1 + 1 - (dotLines ls).length = 2 by omega]; rfl⟩
    · omega
theorem dotGet_empty (s : ByteArray) (h : (linesB s).1 = []) : dotGet s = ([], false) := by
  unfold dotGet
  rw [h]
  simp only [List.dropLast_nil, List.map_nil]
  rw [if_neg]
  rintro ⟨_, h2⟩
  have hd : BB (dots []) = s := h2
  subst hd
  unfold linesB at h
  rw [if_neg (by rw [size_BB]; decide), LL_BB] at h
  simp only [List.map_eq_nil_iff] at h
  exact noLines_dots _ h
theorem dotPut_iff (b : List ByteArray) (s : ByteArray) (hs : s.size ≠ 0) : dotPut b = s ↔ bodyOk b = true ∧ BB (dots b) = s := by
  unfold dotPut
  by_cases h : bodyOk b = true
  · rw [if_pos h]
    simp [h]
  · rw [if_neg h]
    exact ⟨fun e => absurd (by rw [← e]; rfl) hs, fun e => absurd e.1 h⟩
theorem linesB_ne {s : ByteArray} (h : (linesB s).1 ≠ []) : s.size ≠ 0 := by
  intro h0
  apply h
  have := size_zero h0
  subst this
  unfold linesB
  rw [if_neg (by decide)]
  rw [linesOf_none (by decide)]
  rfl
theorem implDotGet_ev (s : ByteArray) : Ev (fun k => impl_DotGet.f k s) (dotGet s) := by
  unfold impl_DotGet.f
  refine Ev.bnd (implLinesOf_ev s) ?_
  obtain ⟨hl, hls⟩ := linesB_len s
  by_cases h : (linesB s).1 = []
  · rw [dotGet_empty s h]
    exact Ev.pos (by rw [h]; rfl) (Ev.ret _)
  · have hpos : 0 < (linesB s).1.length := List.length_pos_iff.2 h
    refine Ev.neg (by omega) ?_
    have hw : wrap64 (((linesB s).1.length : Int) - 1) = (((linesB s).1.length - 1 : Nat) : Int) := by rw [w64 (by omega) (by omega)]; omega
    rw [hw, Int.toNat_natCast]
    refine Ev.pos (by omega) ?_
    refine Ev.pos (by omega) ?_
    refine Ev.bnd (Ev.ret _) ?_
    have := implDotGet_loop s ((linesB s).1.take ((linesB s).1.length - 1)) (by rw [List.length_take]; omega) (fun t ht => hls t (List.mem_of_mem_take ht)) _ 0 (by simp; rfl) [] (by simp)
    refine Ev.eq this ?_
    unfold dotGet
    rw [← dropLast_take]
    simp only
    by_cases h2 : dotPut (List.map undot (linesB s).1.dropLast) = s
    · rw [if_pos h2, if_pos ((dotPut_iff _ s (linesB_ne h)).1 h2)]
    · rw [if_neg h2, if_neg (fun e => h2 ((dotPut_iff _ s (linesB_ne h)).2 e))]
end Go.Proofs.Ytbabdndgaafoaaa.Q
