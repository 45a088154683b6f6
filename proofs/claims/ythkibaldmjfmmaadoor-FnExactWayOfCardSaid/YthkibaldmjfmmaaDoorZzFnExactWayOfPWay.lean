/- Of a text of ours what this claim needs. -/
import Derived.Test.YthkibaldmjfmmaaDoorZzFnExactWayOfPConf
import Derived.Test.YthkibaldmjfmmaaDoorZzFnExactWayOfPDomIn
import Derived.Test.YthkibaldmjfmmaaDoorZzFnExactWayOfQ16
import Derived.Test.YthkibaldmjfmmaaDoorZzFnExactWayOfQ18
import Derived.Test.YthkibaldmjfmmaaDoorZzFnExactWayOfQ19
namespace Go.Proofs.YthkibaldmjfmmaaDoor.Q
open Go.RowKit Go.Proofs.YthkibaldmjfmmaaDoorW.PrintWords Go.Proofs.YthkibaldmjfmmaaDoorW.PrintLast Go.Proofs.YthkibaldmjfmmaaDoorW.PrintMore
set_option linter.unusedVariables false
set_option linter.unusedSimpArgs false
def ownHas (own : List ByteArray) (d : ByteArray) : Bool := own.any (fun s => decide (s = d))
theorem l3Own_loop (n : ByteArray) (own : List ByteArray) (ways : List IW) (u d : ByteArray) (ho : own.length ≤ 1099511627776) : ∀ m i : Nat, i + m = own.length → Ev (fun k => spec_l3Own.l0 k (i : Int) n own ways u d) ((own.drop i).any (fun s => decide (s = d))) := by
  intro m
  induction m with
  | zero =>
    intro i hi
    rw [List.drop_of_length_le (by omega)]
    refine Ev.step (fun k => by rw [spec_l3Own.l0]) ?_
    exact Ev.neg (by omega) (Ev.ret _)
  | succ m ih =>
    intro i hi
    rw [drop_rd own i (by omega), List.any_cons]
    refine Ev.step (fun k => by rw [spec_l3Own.l0]) ?_
    refine (Ev.pos (by omega) (Ev.pos (by omega) ?_))
    rw [wsucc (by omega)]
    by_cases h : rdOf ByteArray.empty own (i : Int) = d
    · exact Ev.pos (toList_eq.2 h) (Ev.eq (Ev.ret _) (by rw [decide_eq_true h, Bool.true_or]))
    · exact Ev.neg (fun e => h (toList_eq.1 e)) (Ev.eq (ih (i + 1) (by omega)) (by rw [decide_eq_false h, Bool.false_or]))
theorem l3Own_ev (n : ByteArray) (own : List ByteArray) (ways : List IW) (u d : ByteArray) (ho : own.length ≤ 1099511627776) : Ev (fun k => spec_l3Own.f k n own ways u d) (ownHas own d) := by
  have := l3Own_loop n own ways u d ho own.length 0 (by omega)
  rw [List.drop_zero] at this
  exact this
theorem index_loop (own : List ByteArray) (d : ByteArray) (ho : own.length ≤ 1099511627776) : ∀ m i : Nat, i + m = own.length → ∃ r, Ev (fun k => slices_Index_string_string.l0 k own d (own.length : Int) (i : Int)) r ∧ decide (r ≥ 0) = (own.drop i).any (fun s => decide (s = d)) := by
  intro m
  induction m with
  | zero =>
    intro i hi
    refine ⟨-1, Ev.step (fun k => by rw [slices_Index_string_string.l0]) (Ev.neg (by omega) (Ev.ret _)), ?_⟩
    rw [List.drop_of_length_le (by omega)]
    rfl
  | succ m ih =>
    intro i hi
    rw [drop_rd own i (by omega), List.any_cons]
    by_cases h : rdOf ByteArray.empty own (i : Int) = d
    · refine ⟨(i : Int), Ev.step (fun k => by rw [slices_Index_string_string.l0]) (Ev.pos (by omega) (Ev.pos (by omega) (Ev.pos (by omega) (Ev.pos (toList_eq.2 h.symm) (Ev.ret _))))), ?_⟩
      rw [decide_eq_true h, Bool.true_or]
      exact decide_eq_true (by omega)
    · obtain ⟨r, hr, hd⟩ := ih (i + 1) (by omega)
      refine ⟨r, Ev.step (fun k => by rw [slices_Index_string_string.l0]) (Ev.pos (by omega) (Ev.pos (by omega) (Ev.pos (by omega) (Ev.neg (fun e => h (toList_eq.1 e).symm) ?_)))), ?_⟩
      · rw [wsucc (by omega)]
        exact hr
      · rw [decide_eq_false h, Bool.false_or]
        exact hd
theorem local_ev (n : ByteArray) (own : List ByteArray) (ways : List IW) (d : ByteArray) (ho : own.length ≤ 1099511627776) : Ev (fun k => impl_Conf_local.f k n own ways d) (ownHas own d) := by
  obtain ⟨r, hr, hd⟩ := index_loop own d ho own.length 0 (by omega)
  rw [List.drop_zero] at hd
  have h1 : Ev (fun k => slices_Index_string_string.f k own d) r := hr
  have h2 : Ev (fun k => slices_Contains_string_string.f k own d) (decide (r ≥ 0)) := Ev.bnd h1 (Ev.ret _)
  unfold impl_Conf_local.f ownHas
  rw [← hd]
  exact Ev.bnd h2 (Ev.ret _)
def wayFold (d : ByteArray) : List IW → ByteArray → ByteArray → ByteArray
  | [], _, t => t
  | w :: ws, e, t => if endsL (LL d) (LL w.f0) = true ∧ w.f0.size > e.size then wayFold d ws w.f0 w.f1 else wayFold d ws e t
theorem l3Way_loop (n : ByteArray) (own : List ByteArray) (ways : List IW) (d : ByteArray) (hd : d.size ≤ 1099511627776) (hw : ways.length ≤ 1099511627776) (hs : ∀ s ∈ ways, s.f0.size ≤ 1099511627776) : ∀ m i : Nat, i + m = ways.length → ∀ e t : ByteArray,
    Ev (fun k => spec_l3Way.l0 k d e t (i : Int) n own ways) (wayFold d (ways.drop i) e t) := by
  intro m
  induction m with
  | zero =>
    intro i hi e t
    rw [List.drop_of_length_le (by omega)]
    refine Ev.step (fun k => by rw [spec_l3Way.l0]) ?_
    exact Ev.neg (by omega) (Ev.ret _)
  | succ m ih =>
    intro i hi e t
    have hil : i < ways.length := by omega
    have hz := hs ways[i] (List.getElem_mem hil)
    rw [List.drop_eq_getElem_cons hil, wayFold]
    refine Ev.step (fun k => by rw [spec_l3Way.l0]) ?_
    refine (Ev.pos (by omega) (Ev.pos (by omega) ?_))
    rw [rdIW ways i hil, wsucc (by omega)]
    refine Ev.bnd (Ev.k (l1Ends_f d _ hd hz)) ?_
    by_cases h1 : endsL (LL d) (LL ways[i].f0) = true
    · by_cases h2 : (ways[i].f0.size : Int) > (e.size : Int)
      · exact Ev.eq (Ev.pos h1 (Ev.pos h2 (ih (i + 1) (by omega) _ _))) (if_pos ⟨h1, by omega⟩).symm
      · exact Ev.eq (Ev.pos h1 (Ev.neg h2 (ih (i + 1) (by omega) _ _))) (if_neg (fun q => h2 (by omega))).symm
    · exact Ev.eq (Ev.neg h1 (ih (i + 1) (by omega) _ _)) (if_neg (fun q => h1 q.1)).symm
theorem way_loop (ways : List IW) (d : ByteArray) (hd : d.size ≤ 4294967280) (hw : ways.length ≤ 1099511627776) (hs : ∀ s ∈ ways, s.f0.size ≤ 4294967280) (hok : ways.all wayL = true) (hdo : domL (LL d) = true) : ∀ m i : Nat, i + m = ways.length → ∀ e t : ByteArray,
    Ev (fun k => impl_Conf_way.l0 k d ways (ways.length : Int) (i : Int) e t) (wayFold d (ways.drop i) e t) := by
  intro m
  induction m with
  | zero =>
    intro i hi e t
    rw [List.drop_of_length_le (by omega)]
    refine Ev.step (fun k => by rw [impl_Conf_way.l0]) ?_
    exact Ev.neg (by omega) (Ev.ret _)
  | succ m ih =>
    intro i hi e t
    have hil : i < ways.length := by omega
    have hz := hs ways[i] (List.getElem_mem hil)
    have hwl : domL (LL ways[i].f0) = true := by
      have := List.all_eq_true.1 hok ways[i] (List.getElem_mem hil)
      unfold wayL at this
      rw [Bool.and_eq_true] at this
      exact this.1
    have hin : domIn d ways[i].f0 = endsL (LL d) (LL ways[i].f0) := by unfold domIn; rw [hdo, hwl]; rfl
    have he := implDomainIn_ev d ways[i].f0 hd hz
    rw [hin] at he
    rw [List.drop_eq_getElem_cons hil, wayFold]
    refine Ev.step (fun k => by rw [impl_Conf_way.l0]) ?_
    refine (Ev.pos (by omega) (Ev.pos (by omega) (Ev.pos (by omega) ?_)))
    rw [rdIW ways i hil, wsucc (by omega)]
    refine Ev.bnd he ?_
    by_cases h1 : endsL (LL d) (LL ways[i].f0) = true
    · by_cases h2 : (ways[i].f0.size : Int) > (e.size : Int)
      · exact Ev.eq (Ev.pos h1 (Ev.pos h2 (ih (i + 1) (by omega) _ _))) (if_pos ⟨h1, by omega⟩).symm
      · exact Ev.eq (Ev.pos h1 (Ev.neg h2 (ih (i + 1) (by omega) _ _))) (if_neg (fun q => h2 (by omega))).symm
    · exact Ev.eq (Ev.neg h1 (ih (i + 1) (by omega) _ _)) (if_neg (fun q => h1 q.1)).symm
def wayL2 (own : List ByteArray) (ways : List IW) (d : ByteArray) : ByteArray := if ownHas own d = true then ⟨#[]⟩ else wayFold d ways ⟨#[]⟩ ⟨#[]⟩
theorem way_ev (n : ByteArray) (own : List ByteArray) (ways : List IW) (d : ByteArray) (hd : d.size ≤ 4294967280) (ho : own.length ≤ 1099511627776) (hw : ways.length ≤ 1099511627776) (hs : ∀ s ∈ ways, s.f0.size ≤ 4294967280) (hok : ways.all wayL = true) (hdo : domL (LL d) = true) :
    Ev (fun k => impl_Conf_way.f k n own ways d) (wayL2 own ways d) := by
  unfold impl_Conf_way.f wayL2
  refine Ev.bnd (local_ev n own ways d ho) ?_
  by_cases h : ownHas own d = true
  · exact Ev.eq (Ev.pos h (Ev.ret _)) (if_pos h).symm
  · have := way_loop ways d hd hw hs hok hdo ways.length 0 (by omega) ⟨#[]⟩ ⟨#[]⟩
    rw [List.drop_zero] at this
    exact Ev.eq (Ev.neg h this) (if_neg h).symm
theorem l3Way_ev (n : ByteArray) (own : List ByteArray) (ways : List IW) (d : ByteArray) (hd : d.size ≤ 1099511627776) (hw : ways.length ≤ 1099511627776) (hs : ∀ s ∈ ways, s.f0.size ≤ 1099511627776) : Ev (fun k => spec_l3Way.f k n own ways d) (wayFold d ways ⟨#[]⟩ ⟨#[]⟩) := by
  have := l3Way_loop n own ways d hd hw hs ways.length 0 (by omega) ⟨#[]⟩ ⟨#[]⟩
  rw [List.drop_zero] at this
  exact this
theorem confL_ways {n : ByteArray} {own : List ByteArray} {ways : List IW} (h : confL n own ways = true) : ways.all wayL = true := by
  unfold confL at h
  simp only [Bool.and_eq_true] at h
  exact h.1.1.1.2
end Go.Proofs.YthkibaldmjfmmaaDoor.Q
