/- Plain laws: what the exact laws do with lists of texts: sizes, copies, marks. -/
import Derived.Test.YtpeefjfklklhdaaDoorPBody
import Derived.Test.YtpeefjfklklhdaaDoorQ12
import Derived.Test.YtpeefjfklklhdaaDoorQ18
import Derived.Test.YtpeefjfklklhdaaDoorQ19
namespace Go.Proofs.YtpeefjfklklhdaaDoor.Q
open Go.RowKit Go.Proofs.YtpeefjfklklhdaaDoorW.PrintWords Go.Proofs.YtpeefjfklklhdaaDoorW.PrintLast Go.Proofs.YtpeefjfklklhdaaDoorW.PrintMore
set_option linter.unusedVariables false
set_option linter.unusedSimpArgs false

theorem szStringS_loop (l : List ByteArray) (hm : l.length ≤ 9223372036854775807) (hs : ∀ s ∈ l, s.size ≤ 9223372036854775807) : ∀ d i : Nat, i + d = l.length → ∀ a : Int, 0 ≤ a → a ≤ 1048576 →
    ∃ r, Ev (fun k => laws_szStringS.l0 k l a (i : Int)) r ∧ r ≤ a ∧ (0 ≤ r → ∀ s ∈ l.drop i, (s.size : Int) ≤ a) := by
  intro d
  induction d with
  | zero =>
    intro i hi a h0 h1
    refine ⟨a, ?_, Int.le_refl _, fun _ s hs => by rw [List.drop_of_length_le (by omega)] at hs; cases hs⟩
    refine Ev.step (fun k => by rw [laws_szStringS.l0]) ?_
    exact Ev.neg (by omega) (Ev.ret _)
  | succ d ih =>
    intro i hi a h0 h1
    have hz := hs _ (mem_rd l i (by omega))
    have hw : wrap64 (a - ((rdOf ByteArray.empty l (i : Int)).size : Int)) = a - ((rdOf ByteArray.empty l (i : Int)).size : Int) := w64 (by omega) (by omega)
    by_cases h : a - ((rdOf ByteArray.empty l (i : Int)).size : Int) < 0
    · refine ⟨-1, ?_, by omega, by omega⟩
      refine Ev.step (fun k => by rw [laws_szStringS.l0]) ?_
      refine Ev.pos (by omega) (Ev.pos (by omega) ?_)
      rw [hw]
      exact Ev.pos h (Ev.ret _)
    · obtain ⟨r, hr, hle, hall⟩ := ih (i + 1) (by omega) (a - ((rdOf ByteArray.empty l (i : Int)).size : Int)) (by omega) (by omega)
      refine ⟨r, ?_, by omega, fun h0' s hs' => ?_⟩
      · refine Ev.step (fun k => by rw [laws_szStringS.l0]) ?_
        refine Ev.pos (by omega) (Ev.pos (by omega) ?_)
        rw [hw]
        refine Ev.neg h ?_
        rw [wsucc (by omega)]
        exact hr
      · rw [drop_rd l i (by omega)] at hs'
        rcases List.mem_cons.1 hs' with rfl | hs'
        · omega
        · have := hall h0' s hs'
          omega
theorem szStringS_ev (l : List ByteArray) (hm : l.length ≤ 9223372036854775807) (hs : ∀ s ∈ l, s.size ≤ 9223372036854775807) (a : Int) (h0 : 0 ≤ a) (h1 : a ≤ 1048576) :
    ∃ r, Ev (fun k => laws_szStringS.f k l a) r ∧ r ≤ a ∧ (0 ≤ r → (l.length : Int) ≤ a ∧ ∀ s ∈ l, (s.size : Int) ≤ a) := by
  unfold laws_szStringS.f
  have hw : wrap64 (a - (l.length : Int)) = a - (l.length : Int) := w64 (by omega) (by omega)
  rw [hw]
  by_cases h : a - (l.length : Int) < 0
  · exact ⟨-1, Ev.pos h (Ev.ret _), by omega, by omega⟩
  · obtain ⟨r, hr, hle, hall⟩ := szStringS_loop l hm hs l.length 0 (by omega) (a - (l.length : Int)) (by omega) (by omega)
    refine ⟨r, Ev.neg h hr, by omega, fun h0' => ⟨by omega, fun s hs' => ?_⟩⟩
    have := hall h0' s (by simpa using hs')
    omega

theorem toStringS_loop (l : List ByteArray) (hm : l.length ≤ 1099511627776) : ∀ d i : Nat, i + d = l.length → ∀ x : List ByteArray, x.length = l.length → x.take i = l.take i →
    Ev (fun k => laws_toStringS.l0 k l x (i : Int)) l := by
  intro d
  induction d with
  | zero =>
    intro i hi x hx ht
    refine Ev.step (fun k => by rw [laws_toStringS.l0]) ?_
    refine Ev.neg (by omega) (Ev.k ?_)
    rw [List.take_of_length_le (by omega), List.take_of_length_le (by omega)] at ht
    rw [ht]
  | succ d ih =>
    intro i hi x hx ht
    refine Ev.step (fun k => by rw [laws_toStringS.l0]) ?_
    refine Ev.pos (by omega) (Ev.pos (by omega) (Ev.pos (by omega) ?_))
    rw [wsucc (by omega), Int.toNat_natCast]
    refine ih (i + 1) (by omega) _ (by rw [List.length_set, hx]) ?_
    rw [List.take_succ_eq_append_getElem (by rw [List.length_set]; omega), List.take_succ_eq_append_getElem (by omega), List.take_set_of_le (by omega), ht]
    congr 2
    rw [List.getElem_set_self, rd_get l i (by omega)]
theorem toStringS_ev (l : List ByteArray) (hm : l.length ≤ 1099511627776) : Ev (fun k => laws_toStringS.f k l) l := by
  unfold laws_toStringS.f
  refine Ev.pos (by omega) ?_
  rw [Int.toNat_natCast]
  refine Ev.pos (by omega) ?_
  exact toStringS_loop l hm l.length 0 (by omega) _ (by simp) (by simp)

theorem markText_loop : ∀ (d : Nat) (n : Int) (x : ByteArray), n < 10 ^ d → n ≤ 9223372036854775807 → x.size + d ≤ 1000 → ∃ r, Ev (fun k => laws_markText.l0 k n x) r := by
  intro d
  induction d with
  | zero =>
    intro n x hn hn2 hx
    have : ¬ n > 0 := by simp at hn; omega
    exact ⟨_, Ev.step (fun k => by rw [laws_markText.l0]) (Ev.neg this (Ev.pos (by omega) (Ev.ret _)))⟩
  | succ d ih =>
    intro n x hn hn2 hx
    by_cases h : n > 0
    · have e : Int.tdiv n 10 = n / 10 := Int.tdiv_eq_ediv_of_nonneg (by omega)
      have hw : wrap64 (Int.tdiv n 10) = n / 10 := by rw [e]; exact w64 (by omega) (by omega)
      have hp : n / 10 < 10 ^ d := by
        have : (10 : Int) ^ (d + 1) = 10 ^ d * 10 := Int.pow_succ ..
        omega
      obtain ⟨r, hr⟩ := ih (n / 10) (strOfNums [(wrap64 (48 + (Int.tmod n 10))) % 256] ++ x) hp (by omega) (by rw [size_append, strOfNums_size]; simp; omega)
      refine ⟨r, ?_⟩
      refine Ev.step (fun k => by rw [laws_markText.l0]) ?_
      refine Ev.pos h ?_
      refine Ev.bnd (Ev.ret _) ?_
      refine Ev.pos (by rw [strOfNums_size]; simp; omega) ?_
      rw [hw]
      exact hr
    · exact ⟨_, Ev.step (fun k => by rw [laws_markText.l0]) (Ev.neg h (Ev.pos (by omega) (Ev.ret _)))⟩
theorem markText_ev (n : Int) (hn : n ≤ 9223372036854775807) : ∃ r, Ev (fun k => laws_markText.f k n) r := by
  unfold laws_markText.f
  by_cases h : n ≤ 0
  · exact ⟨_, Ev.pos h (Ev.ret _)⟩
  · obtain ⟨r, hr⟩ := markText_loop 19 n ⟨#[]⟩ (by omega) hn (by decide)
    exact ⟨r, Ev.neg h hr⟩

theorem markStringS_loop (n a : Nat) (hn : n ≤ 1099511627776) (ha : a ≤ 1099511627776) : ∀ d i : Nat, i + d = n → ∀ x : List ByteArray, x.length = n → (∀ j (h : j < n), j < i → Ev (fun k => laws_markText.f k ((a + j : Nat) : Int)) (x.getD j ByteArray.empty)) →
    ∃ y, Ev (fun k => laws_markStringS.l0 k x ((a + i : Nat) : Int) (i : Int)) (((a + n : Nat) : Int), y) ∧ y.length = n ∧ ∀ j, j < n → Ev (fun k => laws_markText.f k ((a + j : Nat) : Int)) (y.getD j ByteArray.empty) := by
  intro d
  induction d with
  | zero =>
    intro i hi x hx hj
    have : i = n := by omega
    subst this
    exact ⟨x, Ev.step (fun k => by rw [laws_markStringS.l0]) (Ev.neg (by omega) (Ev.ret _)), hx, fun j h => hj j h h⟩
  | succ d ih =>
    intro i hi x hx hj
    obtain ⟨t, ht⟩ := markText_ev ((a + i : Nat) : Int) (by omega)
    obtain ⟨y, hy, hl, hall⟩ := ih (i + 1) (by omega) (x.set i t) (by rw [List.length_set, hx]) (fun j h1 h2 => by
      by_cases e : j = i
      · subst e
        have : (x.set j t).getD j ByteArray.empty = t := by
          rw [List.getD_eq_getElem?_getD, List.getElem?_set_self (by omega)]; rfl
        rw [this]
        exact ht
      · have : (x.set i t).getD j ByteArray.empty = x.getD j ByteArray.empty := by
          rw [List.getD_eq_getElem?_getD, List.getElem?_set_ne (fun e' => e e'.symm), ← List.getD_eq_getElem?_getD]
        rw [this]
        exact hj j h1 (by omega))
    refine ⟨y, ?_, hl, hall⟩
    refine Ev.step (fun k => by rw [laws_markStringS.l0]) ?_
    refine Ev.pos (by omega) ?_
    refine Ev.bnd ht ?_
    refine Ev.pos (by omega) ?_
    rw [wsucc (by omega), wsucc (by omega), Int.toNat_natCast, Nat.add_assoc]
    exact hy
theorem heldStringS_loop (x : List ByteArray) (a : Nat) (hn : x.length ≤ 1099511627776) (ha : a ≤ 1099511627776) (hall : ∀ j, j < x.length → Ev (fun k => laws_markText.f k ((a + j : Nat) : Int)) (x.getD j ByteArray.empty)) :
    ∀ d i : Nat, i + d = x.length → Ev (fun k => laws_heldStringS.l0 k x ((a + i : Nat) : Int) (i : Int)) ((a + x.length : Nat) : Int) := by
  intro d
  induction d with
  | zero =>
    intro i hi
    have : i = x.length := by omega
    subst this
    exact Ev.step (fun k => by rw [laws_heldStringS.l0]) (Ev.neg (by omega) (Ev.ret _))
  | succ d ih =>
    intro i hi
    refine Ev.step (fun k => by rw [laws_heldStringS.l0]) ?_
    refine Ev.pos (by omega) ?_
    refine Ev.pos (by omega) ?_
    refine Ev.bnd (hall i (by omega)) ?_
    refine Ev.pos (by unfold rdOf; rw [Int.toNat_natCast]) ?_
    rw [wsucc (by omega), wsucc (by omega), Nat.add_assoc]
    exact ih (i + 1) (by omega)
/-- A list that is marked from a number on holds its marks: as often as it is asked. -/
theorem mark_ev (l : List ByteArray) (a : Nat) (hl : l.length ≤ 1099511627776) (ha : a ≤ 1099511627776) :
    ∃ y, Ev (fun k => laws_markStringS.f k l (a : Int)) (((a + l.length : Nat) : Int), y) ∧ Ev (fun k => laws_heldStringS.f k y (a : Int)) ((a + l.length : Nat) : Int) := by
  obtain ⟨y, hy, hly, hall⟩ := markStringS_loop l.length a hl ha l.length 0 (by omega) l rfl (fun j _ h => absurd h (by omega))
  refine ⟨y, by unfold laws_markStringS.f; exact hy, ?_⟩
  have := heldStringS_loop y a (by omega) ha (by rw [hly]; exact hall) y.length 0 (by omega)
  unfold laws_heldStringS.f
  rw [hly] at this
  exact this

end Go.Proofs.YtpeefjfklklhdaaDoor.Q
