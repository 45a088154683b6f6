/- Plain laws: what the exact laws do with addresses and with lists of addresses: sizes, copies, comparing. -/
import Derived.Test.YtbabdndgaafoaaaPTexts
import Derived.Test.YtbabdndgaafoaaaQ15
import Derived.Test.YtbabdndgaafoaaaQ16
import Derived.Test.YtbabdndgaafoaaaQ17
namespace Go.Proofs.Ytbabdndgaafoaaa.Q
open Go.RowKit Go.Proofs.YtbabdndgaafoaaaW.PrintWords Go.Proofs.YtbabdndgaafoaaaW.PrintLast Go.Proofs.YtbabdndgaafoaaaW.PrintMore
set_option linter.unusedVariables false
set_option linter.unusedSimpArgs false
abbrev LA := S37
abbrev IA := S45

theorem szAddr_f (x y : ByteArray) (hx : x.size ≤ 9223372036854775807) (hy : y.size ≤ 9223372036854775807) (a : Int) (h0 : 0 ≤ a) (h1 : a ≤ 1048576) :
    ∃ r, laws_szAddr.f x y a = some r ∧ r ≤ a ∧ (0 ≤ r → (x.size : Int) ≤ a ∧ (y.size : Int) ≤ a) := by
  unfold laws_szAddr.f
  have hw : wrap64 (a - (x.size : Int)) = a - (x.size : Int) := w64 (by omega) (by omega)
  rw [hw]
  by_cases h : a - (x.size : Int) < 0
  · exact ⟨-1, if_pos h, by omega, by omega⟩
  · have hw2 : wrap64 (a - (x.size : Int) - (y.size : Int)) = a - (x.size : Int) - (y.size : Int) := w64 (by omega) (by omega)
    rw [if_neg h, hw2]
    by_cases h2 : a - (x.size : Int) - (y.size : Int) < 0
    · exact ⟨-1, if_pos h2, by omega, by omega⟩
    · exact ⟨_, if_neg h2, by omega, by omega⟩
theorem rdA (l : List LA) (i : Nat) (h : i < l.length) : rd_T37 l (i : Int) = l[i] := by
  unfold rd_T37
  rw [Int.toNat_natCast, List.getD_eq_getElem?_getD, List.getElem?_eq_getElem h]
  rfl
theorem szAddrS_loop (l : List LA) (hm : l.length ≤ 9223372036854775807) (hs : ∀ s ∈ l, s.f0.size ≤ 9223372036854775807 ∧ s.f1.size ≤ 9223372036854775807) : ∀ d i : Nat, i + d = l.length → ∀ a : Int, 0 ≤ a → a ≤ 1048576 →
    ∃ r, Ev (fun k => laws_szAddrS.l0 k l a (i : Int)) r ∧ r ≤ a ∧ (0 ≤ r → ∀ s ∈ l.drop i, (s.f0.size : Int) ≤ a ∧ (s.f1.size : Int) ≤ a) := by
  intro d
  induction d with
  | zero =>
    intro i hi a h0 h1
    refine ⟨a, ?_, Int.le_refl _, fun _ s hs => by rw [List.drop_of_length_le (by omega)] at hs; cases hs⟩
    refine Ev.step (fun k => by rw [laws_szAddrS.l0]) ?_
    exact Ev.neg (by omega) (Ev.ret _)
  | succ d ih =>
    intro i hi a h0 h1
    have hil : i < l.length := by omega
    obtain ⟨z0, z1⟩ := hs l[i] (List.getElem_mem hil)
    obtain ⟨r, hr, hle, hall⟩ := szAddr_f _ _ z0 z1 a h0 h1
    by_cases h : r < 0
    · refine ⟨-1, ?_, by omega, by omega⟩
      refine Ev.step (fun k => by rw [laws_szAddrS.l0]) ?_
      refine Ev.pos (by omega) (Ev.pos (by omega) ?_)
      rw [rdA l i hil]
      refine Ev.bnd (Ev.k hr) ?_
      exact Ev.pos h (Ev.ret _)
    · obtain ⟨q, hq, hle2, hall2⟩ := ih (i + 1) (by omega) r (by omega) (by omega)
      refine ⟨q, ?_, by omega, fun h0' s hs' => ?_⟩
      · refine Ev.step (fun k => by rw [laws_szAddrS.l0]) ?_
        refine Ev.pos (by omega) (Ev.pos (by omega) ?_)
        rw [rdA l i hil]
        refine Ev.bnd (Ev.k hr) ?_
        refine Ev.neg h ?_
        rw [wsucc (by omega)]
        exact hq
      · rw [List.drop_eq_getElem_cons hil] at hs'
        rcases List.mem_cons.1 hs' with rfl | hs'
        · exact hall (by omega)
        · have := hall2 h0' s hs'
          omega
theorem szAddrS_ev (l : List LA) (hm : l.length ≤ 9223372036854775807) (hs : ∀ s ∈ l, s.f0.size ≤ 9223372036854775807 ∧ s.f1.size ≤ 9223372036854775807) (a : Int) (h0 : 0 ≤ a) (h1 : a ≤ 1048576) :
    ∃ r, Ev (fun k => laws_szAddrS.f k l a) r ∧ r ≤ a ∧ (0 ≤ r → (l.length : Int) ≤ a ∧ ∀ s ∈ l, (s.f0.size : Int) ≤ a ∧ (s.f1.size : Int) ≤ a) := by
  unfold laws_szAddrS.f
  have hw : wrap64 (a - (l.length : Int)) = a - (l.length : Int) := w64 (by omega) (by omega)
  rw [hw]
  by_cases h : a - (l.length : Int) < 0
  · exact ⟨-1, Ev.pos h (Ev.ret _), by omega, by omega⟩
  · obtain ⟨r, hr, hle, hall⟩ := szAddrS_loop l hm hs l.length 0 (by omega) (a - (l.length : Int)) (by omega) (by omega)
    refine ⟨r, Ev.neg h hr, by omega, fun h0' => ⟨by omega, fun s hs' => ?_⟩⟩
    have := hall h0' s (by simpa using hs')
    omega

def toIA (x : LA) : IA := ⟨x.f0, x.f1⟩
theorem toAddrS_loop (l : List LA) (hm : l.length ≤ 1099511627776) : ∀ d i : Nat, i + d = l.length → ∀ x : List IA, x.length = l.length → x.take i = (l.take i).map toIA →
    Ev (fun k => laws_toAddrS.l0 k l x (i : Int)) (l.map toIA) := by
  intro d
  induction d with
  | zero =>
    intro i hi x hx ht
    refine Ev.step (fun k => by rw [laws_toAddrS.l0]) ?_
    refine Ev.neg (by omega) (Ev.k ?_)
    rw [List.take_of_length_le (by omega), List.take_of_length_le (by omega)] at ht
    rw [ht]
  | succ d ih =>
    intro i hi x hx ht
    have hil : i < l.length := by omega
    refine Ev.step (fun k => by rw [laws_toAddrS.l0]) ?_
    refine Ev.pos (by omega) (Ev.pos (by omega) ?_)
    rw [rdA l i hil]
    refine Ev.bnd (Ev.k (show laws_toAddr.f _ _ = some _ from rfl)) ?_
    refine Ev.pos (by omega) ?_
    rw [wsucc (by omega), Int.toNat_natCast]
    refine ih (i + 1) (by omega) _ (by rw [List.length_set, hx]) ?_
    rw [List.take_succ_eq_append_getElem (by rw [List.length_set]; omega), List.take_succ_eq_append_getElem (by omega), List.take_set_of_le (by omega), ht, List.map_append]
    congr 2
    rw [List.getElem_set_self]
    rfl
theorem toAddrS_ev (l : List LA) (hm : l.length ≤ 1099511627776) : Ev (fun k => laws_toAddrS.f k l) (l.map toIA) := by
  unfold laws_toAddrS.f
  refine Ev.pos (by omega) ?_
  rw [Int.toNat_natCast]
  refine Ev.pos (by omega) ?_
  exact toAddrS_loop l hm l.length 0 (by omega) _ (by simp) (by simp)
theorem eqAddr_refl (x y : ByteArray) : laws_eqAddr.f x y x y = some true := by
  unfold laws_eqAddr.f
  rw [if_pos rfl, if_pos rfl]
theorem eqAddrS_loop (l : List IA) (hm : l.length ≤ 1099511627776) : ∀ d i : Nat, i + d = l.length → Ev (fun k => laws_eqAddrS.l0 k l l (i : Int)) true := by
  intro d
  induction d with
  | zero =>
    intro i hi
    refine Ev.step (fun k => by rw [laws_eqAddrS.l0]) ?_
    exact Ev.neg (by omega) (Ev.ret _)
  | succ d ih =>
    intro i hi
    refine Ev.step (fun k => by rw [laws_eqAddrS.l0]) ?_
    refine Ev.pos (by omega) (Ev.pos (by omega) (Ev.pos (by omega) ?_))
    refine Ev.bnd (Ev.k (eqAddr_refl _ _)) ?_
    refine Ev.pos rfl ?_
    rw [wsucc (by omega)]
    exact ih (i + 1) (by omega)
theorem eqAddrS_refl (l : List IA) (hm : l.length ≤ 1099511627776) : Ev (fun k => laws_eqAddrS.f k l l) true := by
  unfold laws_eqAddrS.f
  exact Ev.pos rfl (eqAddrS_loop l hm l.length 0 (by omega))

end Go.Proofs.Ytbabdndgaafoaaa.Q
