/- Of a text of ours what this claim needs. -/
import Derived.Test.YthkibaldmjfmmaaDoorZzFnExactWayOfPDom
import Derived.Test.YthkibaldmjfmmaaDoorZzFnExactWayOfPTexts
import Derived.Test.YthkibaldmjfmmaaDoorZzFnExactWayOfQ14
import Derived.Test.YthkibaldmjfmmaaDoorZzFnExactWayOfQ21
import Derived.Test.YthkibaldmjfmmaaDoorZzFnExactWayOfQ15
import Derived.Test.YthkibaldmjfmmaaDoorZzFnExactWayOfQ18
namespace Go.Proofs.YthkibaldmjfmmaaDoor.Q
open Go.RowKit Go.Proofs.YthkibaldmjfmmaaDoorW.PrintWords Go.Proofs.YthkibaldmjfmmaaDoorW.PrintLast Go.Proofs.YthkibaldmjfmmaaDoorW.PrintMore
set_option linter.unusedVariables false
set_option linter.unusedSimpArgs false
abbrev LW := S116
abbrev IW := S117
theorem szWay_f (x y : ByteArray) (hx : x.size ≤ 9223372036854775807) (hy : y.size ≤ 9223372036854775807) (a : Int) (h0 : 0 ≤ a) (h1 : a ≤ 1048576) :
    ∃ r, laws_szWay.f x y a = some r ∧ r ≤ a ∧ (0 ≤ r → (x.size : Int) ≤ a ∧ (y.size : Int) ≤ a) := by
  unfold laws_szWay.f
  have hw : wrap64 (a - (x.size : Int)) = a - (x.size : Int) := w64 (by omega) (by omega)
  rw [hw]
  by_cases h : a - (x.size : Int) < 0
  · exact ⟨-1, if_pos h, by omega, by omega⟩
  · have hw2 : wrap64 (a - (x.size : Int) - (y.size : Int)) = a - (x.size : Int) - (y.size : Int) := w64 (by omega) (by omega)
    rw [if_neg h, hw2]
    by_cases h2 : a - (x.size : Int) - (y.size : Int) < 0
    · exact ⟨-1, if_pos h2, by omega, by omega⟩
    · exact ⟨_, if_neg h2, by omega, by omega⟩
theorem rdLW (l : List LW) (i : Nat) (h : i < l.length) : rd_T116 l (i : Int) = l[i] := by
  unfold rd_T116
  rw [Int.toNat_natCast, List.getD_eq_getElem?_getD, List.getElem?_eq_getElem h]
  rfl
theorem rdIW (l : List IW) (i : Nat) (h : i < l.length) : rd_T117 l (i : Int) = l[i] := by
  unfold rd_T117
  rw [Int.toNat_natCast, List.getD_eq_getElem?_getD, List.getElem?_eq_getElem h]
  rfl
theorem szWayS_loop (l : List LW) (hm : l.length ≤ 9223372036854775807) (hs : ∀ s ∈ l, s.f0.size ≤ 9223372036854775807 ∧ s.f1.size ≤ 9223372036854775807) : ∀ d i : Nat, i + d = l.length → ∀ a : Int, 0 ≤ a → a ≤ 1048576 →
    ∃ r, Ev (fun k => laws_szWayS.l0 k l a (i : Int)) r ∧ r ≤ a ∧ (0 ≤ r → ∀ s ∈ l.drop i, (s.f0.size : Int) ≤ a ∧ (s.f1.size : Int) ≤ a) := by
  intro d
  induction d with
  | zero =>
    intro i hi a h0 h1
    refine ⟨a, ?_, Int.le_refl _, fun _ s hs => by rw [List.drop_of_length_le (by omega)] at hs; cases hs⟩
    refine Ev.step (fun k => by rw [laws_szWayS.l0]) ?_
    exact Ev.neg (by omega) (Ev.ret _)
  | succ d ih =>
    intro i hi a h0 h1
    have hil : i < l.length := by omega
    obtain ⟨z0, z1⟩ := hs l[i] (List.getElem_mem hil)
    obtain ⟨r, hr, hle, hall⟩ := szWay_f _ _ z0 z1 a h0 h1
    by_cases h : r < 0
    · refine ⟨-1, ?_, by omega, by omega⟩
      refine Ev.step (fun k => by rw [laws_szWayS.l0]) ?_
      refine Ev.pos (by omega) (Ev.pos (by omega) ?_)
      rw [rdLW l i hil]
      exact Ev.bnd (Ev.k hr) (Ev.pos h (Ev.ret _))
    · obtain ⟨q, hq, hle2, hall2⟩ := ih (i + 1) (by omega) r (by omega) (by omega)
      refine ⟨q, ?_, by omega, fun h0' s hs' => ?_⟩
      · refine Ev.step (fun k => by rw [laws_szWayS.l0]) ?_
        refine Ev.pos (by omega) (Ev.pos (by omega) ?_)
        rw [rdLW l i hil]
        refine Ev.bnd (Ev.k hr) (Ev.neg h ?_)
        rw [wsucc (by omega)]
        exact hq
      · rw [List.drop_eq_getElem_cons hil] at hs'
        rcases List.mem_cons.1 hs' with rfl | hs'
        · exact hall (by omega)
        · have := hall2 h0' s hs'
          omega
theorem szWayS_ev (l : List LW) (hm : l.length ≤ 9223372036854775807) (hs : ∀ s ∈ l, s.f0.size ≤ 9223372036854775807 ∧ s.f1.size ≤ 9223372036854775807) (a : Int) (h0 : 0 ≤ a) (h1 : a ≤ 1048576) :
    ∃ r, Ev (fun k => laws_szWayS.f k l a) r ∧ r ≤ a ∧ (0 ≤ r → (l.length : Int) ≤ a ∧ ∀ s ∈ l, (s.f0.size : Int) ≤ a ∧ (s.f1.size : Int) ≤ a) := by
  unfold laws_szWayS.f
  have hw : wrap64 (a - (l.length : Int)) = a - (l.length : Int) := w64 (by omega) (by omega)
  rw [hw]
  by_cases h : a - (l.length : Int) < 0
  · exact ⟨-1, Ev.pos h (Ev.ret _), by omega, by omega⟩
  · obtain ⟨r, hr, hle, hall⟩ := szWayS_loop l hm hs l.length 0 (by omega) (a - (l.length : Int)) (by omega) (by omega)
    refine ⟨r, Ev.neg h hr, by omega, fun h0' => ⟨by omega, fun s hs' => ?_⟩⟩
    have := hall h0' s (by simpa using hs')
    omega
def toIW (x : LW) : IW := ⟨x.f0, x.f1⟩
theorem toWayS_loop (l : List LW) (hm : l.length ≤ 1099511627776) : ∀ d i : Nat, i + d = l.length → ∀ x : List IW, x.length = l.length → x.take i = (l.take i).map toIW →
    Ev (fun k => laws_toWayS.l0 k l x (i : Int)) (l.map toIW) := by
  intro d
  induction d with
  | zero =>
    intro i hi x hx ht
    refine Ev.step (fun k => by rw [laws_toWayS.l0]) ?_
    refine Ev.neg (by omega) (Ev.k ?_)
    rw [List.take_of_length_le (by omega), List.take_of_length_le (by omega)] at ht
    rw [ht]
  | succ d ih =>
    intro i hi x hx ht
    have hil : i < l.length := by omega
    refine Ev.step (fun k => by rw [laws_toWayS.l0]) ?_
    refine Ev.pos (by omega) (Ev.pos (by omega) ?_)
    rw [rdLW l i hil]
    refine Ev.bnd (Ev.k (show laws_toWay.f _ _ = some _ from rfl)) ?_
    refine Ev.pos (by omega) ?_
    rw [wsucc (by omega), Int.toNat_natCast]
    refine ih (i + 1) (by omega) _ (by rw [List.length_set, hx]) ?_
    rw [List.take_succ_eq_append_getElem (by rw [List.length_set]; omega), List.take_succ_eq_append_getElem (by omega), List.take_set_of_le (by omega), ht, List.map_append]
    congr 2
    rw [List.getElem_set_self]
    rfl
theorem toWayS_ev (l : List LW) (hm : l.length ≤ 1099511627776) : Ev (fun k => laws_toWayS.f k l) (l.map toIW) := by
  unfold laws_toWayS.f
  refine Ev.pos (by omega) ?_
  rw [Int.toNat_natCast]
  refine Ev.pos (by omega) ?_
  exact toWayS_loop l hm l.length 0 (by omega) _ (by simp) (by simp)
theorem eqWay_refl (x y : ByteArray) : laws_eqWay.f x y x y = some true := by
  unfold laws_eqWay.f
  rw [if_pos rfl, if_pos rfl]
theorem eqWayS_loop (l : List IW) (hm : l.length ≤ 1099511627776) : ∀ d i : Nat, i + d = l.length → Ev (fun k => laws_eqWayS.l0 k l l (i : Int)) true := by
  intro d
  induction d with
  | zero =>
    intro i hi
    refine Ev.step (fun k => by rw [laws_eqWayS.l0]) ?_
    exact Ev.neg (by omega) (Ev.ret _)
  | succ d ih =>
    intro i hi
    refine Ev.step (fun k => by rw [laws_eqWayS.l0]) ?_
    refine Ev.pos (by omega) (Ev.pos (by omega) (Ev.pos (by omega) ?_))
    refine Ev.bnd (Ev.k (eqWay_refl _ _)) ?_
    refine Ev.pos rfl ?_
    rw [wsucc (by omega)]
    exact ih (i + 1) (by omega)
theorem eqWayS_refl (l : List IW) (hm : l.length ≤ 1099511627776) : Ev (fun k => laws_eqWayS.f k l l) true := by
  unfold laws_eqWayS.f
  exact Ev.pos rfl (eqWayS_loop l hm l.length 0 (by omega))
def ConfSmall (a0 : ByteArray) (l1 : List ByteArray) (l2 : List LW) : Prop := a0.size ≤ 1048576 ∧ (l1.length ≤ 1048576 ∧ ∀ s ∈ l1, s.size ≤ 1048576) ∧ l2.length ≤ 1048576 ∧ ∀ s ∈ l2, s.f0.size ≤ 1048576 ∧ s.f1.size ≤ 1048576
theorem szConf_ev (a0 : ByteArray) (l1 : List ByteArray) (l2 : List LW) (h0 : a0.size ≤ 9223372036854775807) (h1 : l1.length ≤ 9223372036854775807 ∧ ∀ s ∈ l1, s.size ≤ 9223372036854775807)
    (h2 : l2.length ≤ 9223372036854775807 ∧ ∀ s ∈ l2, s.f0.size ≤ 9223372036854775807 ∧ s.f1.size ≤ 9223372036854775807) (a : Int) (ha : 0 ≤ a) (hb : a ≤ 1048576) :
    ∃ r, Ev (fun k => laws_szConf.f k a0 l1 l2 a) r ∧ r ≤ a ∧ (0 ≤ r → ConfSmall a0 l1 l2) := by
  unfold laws_szConf.f
  have hw : wrap64 (a - (a0.size : Int)) = a - (a0.size : Int) := w64 (by omega) (by omega)
  rw [hw]
  by_cases h : a - (a0.size : Int) < 0
  · exact ⟨-1, Ev.pos h (Ev.ret _), by omega, by omega⟩
  · obtain ⟨t, ht, hle, hall⟩ := szStringS_ev l1 h1.1 h1.2 (a - (a0.size : Int)) (by omega) (by omega)
    by_cases h' : t < 0
    · exact ⟨-1, Ev.neg h (Ev.bnd ht (Ev.pos h' (Ev.ret _))), by omega, by omega⟩
    · obtain ⟨q, hq, hle2, hall2⟩ := szWayS_ev l2 h2.1 h2.2 t (by omega) (by omega)
      by_cases h'' : q < 0
      · exact ⟨-1, Ev.neg h (Ev.bnd ht (Ev.neg h' (Ev.bnd hq (Ev.pos h'' (Ev.ret _))))), by omega, by omega⟩
      · have e1 := hall (by omega)
        have e2 := hall2 (by omega)
        refine ⟨q, Ev.neg h (Ev.bnd ht (Ev.neg h' (Ev.bnd hq (Ev.neg h'' (Ev.ret _))))), by omega, fun _ => ⟨by omega, ⟨by omega, fun s hs => ?_⟩, by omega, fun s hs => ?_⟩⟩
        · have := e1.2 s hs; omega
        · have := e2.2 s hs; omega
theorem toConf_ev (a0 : ByteArray) (l1 : List ByteArray) (l2 : List LW) (h : ConfSmall a0 l1 l2) : Ev (fun k => laws_toConf.f k a0 l1 l2) (a0, l1, l2.map toIW) := by
  unfold laws_toConf.f
  obtain ⟨_, h1, h2, _⟩ := h
  exact Ev.bnd (toStringS_ev l1 (by omega)) (Ev.bnd (toWayS_ev l2 (by omega)) (Ev.ret _))
theorem eqConf_refl (a0 : ByteArray) (l1 : List ByteArray) (l2 : List IW) (h1 : l1.length ≤ 1099511627776) (h2 : l2.length ≤ 1099511627776) : Ev (fun k => laws_eqConf.f k a0 l1 l2 a0 l1 l2) true := by
  unfold laws_eqConf.f
  exact Ev.pos rfl (Ev.bnd (eqStringS_ev l1 l1 (by omega)) (Ev.pos (by simp) (Ev.bnd (eqWayS_refl l2 h2) (Ev.pos rfl (Ev.ret _)))))
def wayL (w : IW) : Bool := domL (LL w.f0) && domL (LL w.f1)
def ownL (s : ByteArray) : Bool := domL (LL s)
def confL (n : ByteArray) (own : List ByteArray) (ways : List IW) : Bool := own.all ownL && ways.all wayL && ownL n && decide (own.length ≤ 3) && decide (ways.length ≤ 4)
theorem l3ConfOk_loop1 (n : ByteArray) (own : List ByteArray) (ways : List IW) (hn : n.size ≤ 1099511627776) (hm : ways.length ≤ 1099511627776) (hs : ∀ s ∈ ways, s.f0.size ≤ 1099511627776 ∧ s.f1.size ≤ 1099511627776) : ∀ d i : Nat, i + d = ways.length →
    Ev (fun k => spec_l3ConfOk.l1 k (i : Int) n own ways) ((ways.drop i).all wayL && ownL n && decide (own.length ≤ 3) && decide (ways.length ≤ 4)) := by
  intro d
  induction d with
  | zero =>
    intro i hi
    rw [List.drop_of_length_le (by omega), List.all_nil, Bool.true_and]
    refine Ev.step (fun k => by rw [spec_l3ConfOk.l1]) ?_
    refine Ev.neg (by omega) (Ev.bnd (l1Domain_ev n hn) ?_)
    by_cases h1 : domL (LL n) = true
    · refine Ev.pos h1 ?_
      have e1 : ownL n = true := h1
      rw [e1, Bool.true_and]
      by_cases h2 : (own.length : Int) ≤ 3
      · refine Ev.pos h2 (Ev.eq (Ev.ret _) ?_)
        rw [show decide (own.length ≤ 3) = true by rw [decide_eq_true_eq]; omega, Bool.true_and, decide_eq_decide]
        omega
      · refine Ev.neg h2 (Ev.eq (Ev.ret _) ?_)
        rw [show decide (own.length ≤ 3) = false by rw [decide_eq_false_iff_not]; omega, Bool.false_and]
    · refine Ev.neg h1 (Ev.eq (Ev.ret _) ?_)
      rw [Bool.not_eq_true] at h1
      have e1 : ownL n = false := h1
      rw [e1]
      simp
  | succ d ih =>
    intro i hi
    have hil : i < ways.length := by omega
    obtain ⟨z0, z1⟩ := hs ways[i] (List.getElem_mem hil)
    rw [List.drop_eq_getElem_cons hil, List.all_cons]
    refine Ev.step (fun k => by rw [spec_l3ConfOk.l1]) ?_
    refine Ev.pos (by omega) (Ev.pos (by omega) ?_)
    rw [rdIW ways i hil, wsucc (by omega)]
    refine Ev.bnd (l1Domain_ev _ z0) ?_
    by_cases h1 : domL (LL ways[i].f0) = true
    · refine Ev.pos h1 (Ev.bnd (l1Domain_ev _ z1) ?_)
      by_cases h2 : domL (LL ways[i].f1) = true
      · refine Ev.pos h2 (Ev.eq (ih (i + 1) (by omega)) ?_)
        have : wayL ways[i] = true := by unfold wayL; rw [h1, h2]; rfl
        rw [this, Bool.true_and]
      · refine Ev.neg h2 (Ev.eq (Ev.ret _) ?_)
        rw [Bool.not_eq_true] at h2
        have : wayL ways[i] = false := by unfold wayL; rw [h1, h2]; rfl
        rw [this]
        simp
    · refine Ev.neg h1 (Ev.eq (Ev.ret _) ?_)
      rw [Bool.not_eq_true] at h1
      have : wayL ways[i] = false := by unfold wayL; rw [h1]; rfl
      rw [this]
      simp
theorem l3ConfOk_loop0 (n : ByteArray) (own : List ByteArray) (ways : List IW) (hn : n.size ≤ 1099511627776) (ho : own.length ≤ 1099511627776) (hos : ∀ s ∈ own, s.size ≤ 1099511627776) (hm : ways.length ≤ 1099511627776) (hs : ∀ s ∈ ways, s.f0.size ≤ 1099511627776 ∧ s.f1.size ≤ 1099511627776) : ∀ d i : Nat, i + d = own.length →
    Ev (fun k => spec_l3ConfOk.l0 k (i : Int) n own ways) ((own.drop i).all ownL && ways.all wayL && ownL n && decide (own.length ≤ 3) && decide (ways.length ≤ 4)) := by
  intro d
  induction d with
  | zero =>
    intro i hi
    rw [List.drop_of_length_le (by omega), List.all_nil, Bool.true_and]
    refine Ev.step (fun k => by rw [spec_l3ConfOk.l0]) ?_
    have := l3ConfOk_loop1 n own ways hn hm hs ways.length 0 (by omega)
    rw [List.drop_zero] at this
    exact Ev.neg (by omega) this
  | succ d ih =>
    intro i hi
    refine Ev.step (fun k => by rw [spec_l3ConfOk.l0]) ?_
    refine Ev.pos (by omega) (Ev.pos (by omega) (Ev.bnd (l1Domain_ev _ (hos _ (mem_rd own i (by omega)))) ?_))
    rw [drop_rd own i (by omega), List.all_cons, wsucc (by omega)]
    by_cases h : domL (LL (rdOf ByteArray.empty own (i : Int))) = true
    · refine Ev.pos h (Ev.eq (ih (i + 1) (by omega)) ?_)
      have : ownL (rdOf ByteArray.empty own (i : Int)) = true := h
      rw [this, Bool.true_and]
    · refine Ev.neg h (Ev.eq (Ev.ret _) ?_)
      rw [Bool.not_eq_true] at h
      have : ownL (rdOf ByteArray.empty own (i : Int)) = false := h
      rw [this]
      simp
theorem l3ConfOk_ev (n : ByteArray) (own : List ByteArray) (ways : List IW) (hn : n.size ≤ 1099511627776) (ho : own.length ≤ 1099511627776) (hos : ∀ s ∈ own, s.size ≤ 1099511627776) (hm : ways.length ≤ 1099511627776) (hs : ∀ s ∈ ways, s.f0.size ≤ 1099511627776 ∧ s.f1.size ≤ 1099511627776) :
    Ev (fun k => spec_l3ConfOk.f k n own ways) (confL n own ways) := by
  have := l3ConfOk_loop0 n own ways hn ho hos hm hs own.length 0 (by omega)
  rw [List.drop_zero] at this
  exact this
theorem ownIndex_loop (l : List ByteArray) (hm : l.length ≤ 1099511627776) (hs : ∀ s ∈ l, s.size ≤ 4294967280) : ∀ d i : Nat, i + d = l.length →
    ∃ r, Ev (fun k => slices_IndexFunc_string_string_at104.l0 k l (l.length : Int) (i : Int)) r ∧ (decide (r ≥ 0) = !(l.drop i).all ownL) := by
  intro d
  induction d with
  | zero =>
    intro i hi
    refine ⟨-1, Ev.step (fun k => by rw [slices_IndexFunc_string_string_at104.l0]) (Ev.neg (by omega) (Ev.ret _)), ?_⟩
    rw [List.drop_of_length_le (by omega)]
    rfl
  | succ d ih =>
    intro i hi
    have hc : Ev (fun k => impl_ConfOk_1.f k (rdOf ByteArray.empty l (i : Int))) (!ownL (rdOf ByteArray.empty l (i : Int))) := Ev.bnd (implDomainOk_ev _ (hs _ (mem_rd l i (by omega)))) (Ev.ret _)
    rw [drop_rd l i (by omega), List.all_cons]
    by_cases h : ownL (rdOf ByteArray.empty l (i : Int)) = true
    · obtain ⟨r, hr, hd⟩ := ih (i + 1) (by omega)
      rw [h] at hc
      refine ⟨r, Ev.step (fun k => by rw [slices_IndexFunc_string_string_at104.l0]) (Ev.pos (by omega) (Ev.pos (by omega) (Ev.pos (by omega) (Ev.bnd hc (Ev.neg (show ¬ ((!true) = true) by decide) ?_))))), by rw [h, Bool.true_and]; exact hd⟩
      rw [wsucc (by omega)]
      exact hr
    · rw [Bool.not_eq_true] at h
      rw [h] at hc
      refine ⟨(i : Int), Ev.step (fun k => by rw [slices_IndexFunc_string_string_at104.l0]) (Ev.pos (by omega) (Ev.pos (by omega) (Ev.pos (by omega) (Ev.bnd hc (Ev.pos rfl (Ev.ret _)))))), by rw [h]; simp⟩
theorem wayIndex_loop (l : List IW) (hm : l.length ≤ 1099511627776) (hs : ∀ s ∈ l, s.f0.size ≤ 4294967280 ∧ s.f1.size ≤ 4294967280) : ∀ d i : Nat, i + d = l.length →
    ∃ r, Ev (fun k => slices_IndexFunc_impl_Way_impl_Way_at105.l0 k l (l.length : Int) (i : Int)) r ∧ (decide (r ≥ 0) = !(l.drop i).all wayL) := by
  intro d
  induction d with
  | zero =>
    intro i hi
    refine ⟨-1, Ev.step (fun k => by rw [slices_IndexFunc_impl_Way_impl_Way_at105.l0]) (Ev.neg (by omega) (Ev.ret _)), ?_⟩
    rw [List.drop_of_length_le (by omega)]
    rfl
  | succ d ih =>
    intro i hi
    have hil : i < l.length := by omega
    obtain ⟨z0, z1⟩ := hs l[i] (List.getElem_mem hil)
    have hc : Ev (fun k => impl_ConfOk_2.f k l[i].f0 l[i].f1) (!wayL l[i]) := by
      unfold impl_ConfOk_2.f wayL
      refine Ev.bnd (implDomainOk_ev _ z0) ?_
      by_cases h : domL (LL l[i].f0) = true
      · refine Ev.pos h (Ev.bnd (implDomainOk_ev _ z1) (Ev.eq (Ev.ret _) ?_))
        rw [h, Bool.true_and]
      · refine Ev.neg h (Ev.eq (Ev.ret _) ?_)
        rw [Bool.not_eq_true] at h
        rw [h]
        rfl
    rw [List.drop_eq_getElem_cons hil, List.all_cons]
    by_cases h : wayL l[i] = true
    · obtain ⟨r, hr, hd⟩ := ih (i + 1) (by omega)
      rw [h] at hc
      refine ⟨r, Ev.step (fun k => by rw [slices_IndexFunc_impl_Way_impl_Way_at105.l0]) (Ev.pos (by omega) (Ev.pos (by omega) (Ev.pos (by omega) ?_))), by rw [h, Bool.true_and]; exact hd⟩
      rw [rdIW l i hil]
      refine Ev.bnd hc (Ev.neg (by simp) ?_)
      rw [wsucc (by omega)]
      exact hr
    · rw [Bool.not_eq_true] at h
      rw [h] at hc
      refine ⟨(i : Int), Ev.step (fun k => by rw [slices_IndexFunc_impl_Way_impl_Way_at105.l0]) (Ev.pos (by omega) (Ev.pos (by omega) (Ev.pos (by omega) ?_))), by rw [h, Bool.false_and]; exact decide_eq_true (by omega)⟩
      rw [rdIW l i hil]
      exact Ev.bnd hc (Ev.pos rfl (Ev.ret _))
theorem implConfOk_ev (n : ByteArray) (own : List ByteArray) (ways : List IW) (hn : n.size ≤ 4294967280) (ho : own.length ≤ 1099511627776) (hos : ∀ s ∈ own, s.size ≤ 4294967280) (hm : ways.length ≤ 1099511627776) (hs : ∀ s ∈ ways, s.f0.size ≤ 4294967280 ∧ s.f1.size ≤ 4294967280) :
    Ev (fun k => impl_ConfOk.f k n own ways) (confL n own ways) := by
  unfold impl_ConfOk.f confL
  refine Ev.bnd (implDomainOk_ev n hn) ?_
  by_cases h1 : domL (LL n) = true
  · refine Ev.pos h1 ?_
    have e1 : ownL n = true := h1
    by_cases h2 : (own.length : Int) ≤ 3
    · refine Ev.pos h2 ?_
      have e2 : decide (own.length ≤ 3) = true := by rw [decide_eq_true_eq]; omega
      by_cases h3 : (ways.length : Int) ≤ 4
      · refine Ev.pos h3 ?_
        have e3 : decide (ways.length ≤ 4) = true := by rw [decide_eq_true_eq]; omega
        obtain ⟨r, hr, hd⟩ := ownIndex_loop own ho hos own.length 0 (by omega)
        obtain ⟨q, hq, hd2⟩ := wayIndex_loop ways hm hs ways.length 0 (by omega)
        rw [List.drop_zero] at hd hd2
        have hc : Ev (fun k => slices_ContainsFunc_string_string_at104.f k own) (decide (r ≥ 0)) := by
          have hr' : Ev (fun k => slices_IndexFunc_string_string_at104.f k own) r := hr
          exact Ev.bnd hr' (Ev.ret _)
        have hc2 : Ev (fun k => slices_ContainsFunc_impl_Way_impl_Way_at105.f k ways) (decide (q ≥ 0)) := by
          have hr' : Ev (fun k => slices_IndexFunc_impl_Way_impl_Way_at105.f k ways) q := hq
          exact Ev.bnd hr' (Ev.ret _)
        rw [hd] at hc
        rw [hd2] at hc2
        rw [e1, e2, e3]
        refine Ev.bnd hc ?_
        by_cases h4 : own.all ownL = true
        · refine Ev.neg (by rw [h4]; simp) (Ev.bnd hc2 (Ev.eq (Ev.ret _) ?_))
          rw [h4]
          simp
        · rw [Bool.not_eq_true] at h4
          refine Ev.pos (by rw [h4]; rfl) (Ev.eq (Ev.ret _) ?_)
          rw [h4]
          simp
      · refine Ev.neg h3 (Ev.eq (Ev.ret _) ?_)
        rw [show decide (ways.length ≤ 4) = false by rw [decide_eq_false_iff_not]; omega, Bool.and_false]
    · refine Ev.neg h2 (Ev.eq (Ev.ret _) ?_)
      rw [show decide (own.length ≤ 3) = false by rw [decide_eq_false_iff_not]; omega, Bool.and_false, Bool.false_and]
  · refine Ev.neg h1 (Ev.eq (Ev.ret _) ?_)
    rw [Bool.not_eq_true] at h1
    have e1 : ownL n = false := h1
    rw [e1, Bool.and_false, Bool.false_and, Bool.false_and]
end Go.Proofs.YthkibaldmjfmmaaDoor.Q
