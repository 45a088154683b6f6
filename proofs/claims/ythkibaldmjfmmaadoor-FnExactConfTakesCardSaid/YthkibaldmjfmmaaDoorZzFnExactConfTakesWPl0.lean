/- Of texts of ours what this claim needs. -/
import Derived.Test.YthkibaldmjfmmaaDoorZzFnExactConfTakesWQ0
import Derived.Lib.Index
import Derived.Lib.IndexMore
import Derived.Lib.Strings
import Derived.Test.YthkibaldmjfmmaaDoorZzFnExactConfTakesWHSplit
import Derived.Lib.SplitLaws
import Derived.Lib.IndexLaws
import Derived.Test.YthkibaldmjfmmaaDoorZzFnExactConfTakesWQ5
import Derived.Test.YthkibaldmjfmmaaDoorZzFnExactConfTakesWQ3
import Derived.Test.YthkibaldmjfmmaaDoorZzFnExactConfTakesWQ4
import Derived.Test.YthkibaldmjfmmaaDoorZzFnExactConfTakesWQ8
import Derived.Test.YthkibaldmjfmmaaDoorZzFnExactConfTakesWQ16
import Derived.Test.YthkibaldmjfmmaaDoorZzFnExactConfTakesWQ19
import Derived.Test.YthkibaldmjfmmaaDoorZzFnExactConfTakesWQ12
import Derived.Test.YthkibaldmjfmmaaDoorZzFnExactConfTakesWQ2
import Derived.Test.YthkibaldmjfmmaaDoorZzFnExactConfTakesWQ14
import Derived.Test.YthkibaldmjfmmaaDoorZzFnExactConfTakesWQ21
import Derived.Test.YthkibaldmjfmmaaDoorZzFnExactConfTakesWQ15
import Derived.Test.YthkibaldmjfmmaaDoorZzFnExactConfTakesWQ18
import Derived.Test.YthkibaldmjfmmaaDoorZzFnExactConfTakesWQ1
import Derived.Test.YthkibaldmjfmmaaDoorZzFnExactConfTakesWQ23
import Derived.Test.YthkibaldmjfmmaaDoorZzFnExactConfTakesWQ17
import Derived.Maps.OwnSet
import Derived.DeepKeys4
import Derived.WalkKit
import Derived.Test.YthkibaldmjfmmaaDoorZzFnExactConfTakesWQ24
namespace Go.Proofs.YthkibaldmjfmmaaDoor.Q
open Go.RowKit Go.Proofs.YthkibaldmjfmmaaDoorW.PrintWords Go.Proofs.YthkibaldmjfmmaaDoorW.PrintLast Go.Proofs.YthkibaldmjfmmaaDoorW.PrintMore
set_option linter.unusedVariables false
set_option linter.unusedSimpArgs false
section rounds
variable {α β : Type} {g g' f : Nat → Option α} {r : α}
theorem Ev.pos {c : Prop} [Decidable c] (h : c) (e : Ev g r) : Ev (fun k => if c then g k else g' k) r := by
  obtain ⟨K, hK⟩ := e
  exact ⟨K, fun k hk => (if_pos h).trans (hK k hk)⟩
theorem Ev.neg {c : Prop} [Decidable c] (h : ¬ c) (e : Ev g' r) : Ev (fun k => if c then g k else g' k) r := by
  obtain ⟨K, hK⟩ := e
  exact ⟨K, fun k hk => (if_neg h).trans (hK k hk)⟩
theorem Ev.ret (r : α) : Ev (fun _ => some r) r := ⟨0, fun _ _ => rfl⟩
theorem Ev.k {x : Option α} (h : x = some r) : Ev (fun _ => x) r := ⟨0, fun _ _ => h⟩
theorem Ev.bnd {h : Nat → Option α} {F : Nat → α → Option β} {a : α} {r : β} (e : Ev h a) (k : Ev (fun n => F n a) r) : Ev (fun n => (h n).bind (F n)) r := Ev.bind e k
theorem Ev.eq {r' : α} (e : Ev g r) (h : r = r') : Ev g r' := h ▸ e
theorem Ev.ex (h : Ev g r) : ∃ k, g k = some r := by
  obtain ⟨K, hK⟩ := h
  exact ⟨K, hK K (Nat.le_refl _)⟩
end rounds
theorem w64 {x : Int} (h0 : -9223372036854775808 ≤ x) (h1 : x ≤ 9223372036854775807) : wrap64 x = x := by unfold wrap64; omega
theorem wsucc {i : Nat} (h : i ≤ 9223372036854775806) : wrap64 ((i : Int) + 1) = ((i + 1 : Nat) : Int) := by rw [w64 (by omega) (by omega)]; omega
abbrev LL (s : ByteArray) : List UInt8 := s.data.toList
abbrev BB (l : List UInt8) : ByteArray := ⟨l.toArray⟩
theorem BB_LL (s : ByteArray) : BB (LL s) = s := by cases s; simp
theorem LL_BB (l : List UInt8) : LL (BB l) = l := by simp
theorem LL_inj {a b : ByteArray} (h : LL a = LL b) : a = b := by rw [← BB_LL a, ← BB_LL b, h]
theorem toList_LL (s : ByteArray) : s.toList = LL s := Lib.toList_data s
theorem toList_eq {a b : ByteArray} : a.toList = b.toList ↔ a = b := by
  rw [toList_LL, toList_LL]
  exact ⟨LL_inj, fun h => by rw [h]⟩
theorem toList_BB {a : ByteArray} {l : List UInt8} : a.toList = l ↔ a = BB l := by
  rw [toList_LL]
  constructor
  · intro h; rw [← BB_LL a, h]
  · intro h; rw [h, LL_BB]
theorem size_LL (s : ByteArray) : s.size = (LL s).length := Lib.size_eq s
theorem size_BB (l : List UInt8) : (BB l).size = l.length := by rw [size_LL, LL_BB]
theorem LL_append (a b : ByteArray) : LL (a ++ b) = LL a ++ LL b := by unfold LL; rw [ByteArray.data_append, Array.toList_append]
theorem LL_extract (s : ByteArray) (a b : Nat) : LL (s.extract a b) = ((LL s).drop a).take (b - a) := Lib.extract_data s a b
theorem extract_BB (s : ByteArray) (a b : Nat) : s.extract a b = BB (((LL s).drop a).take (b - a)) := LL_inj (by rw [LL_extract, LL_BB])
theorem size_append (a b : ByteArray) : (a ++ b).size = a.size + b.size := by rw [size_LL, LL_append, List.length_append, ← size_LL, ← size_LL]
theorem bt_get (s : ByteArray) (i : Nat) (h : i < s.size) : ∃ c, (LL s)[i]? = some c ∧ bt s (i : Int) = (c.toNat : Int) := by
  have hl : i < (LL s).length := by rw [← size_LL]; exact h
  refine ⟨(LL s)[i], List.getElem?_eq_getElem hl, ?_⟩
  unfold bt
  simp only [Int.toNat_natCast]
  rw [dif_pos h]
  rfl
theorem drop_bt (s : ByteArray) (i : Nat) (h : i < s.size) : ∃ c, (LL s).drop i = c :: (LL s).drop (i + 1) ∧ bt s (i : Int) = (c.toNat : Int) := by
  obtain ⟨c, hc, hb⟩ := bt_get s i h
  have hl : i < (LL s).length := by rw [← size_LL]; exact h
  refine ⟨c, ?_, hb⟩
  rw [List.drop_eq_getElem_cons hl]
  rw [List.getElem?_eq_getElem hl] at hc
  rw [Option.some.inj hc]
theorem u8_ext {c d : UInt8} (h : c.toNat = d.toNat) : c = d := UInt8.toNat.inj h
theorem rd_get (l : List ByteArray) (i : Nat) (h : i < l.length) : rdOf ByteArray.empty l (i : Int) = l[i] := by
  unfold rdOf
  rw [Int.toNat_natCast, List.getD_eq_getElem?_getD, List.getElem?_eq_getElem h]
  rfl
theorem drop_rd (l : List ByteArray) (i : Nat) (h : i < l.length) : l.drop i = rdOf ByteArray.empty l (i : Int) :: l.drop (i + 1) := by
  rw [rd_get l i h, List.drop_eq_getElem_cons h]
theorem mem_rd (l : List ByteArray) (i : Nat) (h : i < l.length) : rdOf ByteArray.empty l (i : Int) ∈ l := by
  rw [rd_get l i h]
  exact List.getElem_mem h
end Go.Proofs.YthkibaldmjfmmaaDoor.Q
namespace Go.Proofs.YthkibaldmjfmmaaDoor.Q
open Go.RowKit Go.Proofs.YthkibaldmjfmmaaDoorW.PrintWords Go.Proofs.YthkibaldmjfmmaaDoorW.PrintLast Go.Proofs.YthkibaldmjfmmaaDoorW.PrintMore
set_option linter.unusedVariables false
set_option linter.unusedSimpArgs false
theorem occ1_iff (l : List UInt8) (c : UInt8) (j : Nat) : Lib.occAt l [c] j = true ↔ l[j]? = some c := by
  unfold Lib.occAt
  have e0 : l[j]? = (l.drop j)[0]? := by rw [List.getElem?_drop, Nat.add_zero]
  rw [e0]
  cases l.drop j with
  | nil => simp [List.isPrefixOf]
  | cons a t => simp [List.isPrefixOf]; exact eq_comm
abbrev cuts (c : UInt8) (n : Nat) (l : List UInt8) : List (List UInt8) := Lib.splitK [c] 0 n l
theorem cuts_at {c : UInt8} {n i : Nat} {l : List UInt8} (h : Lib.index l [c] = (i : Int)) : cuts c (n + 1) l = l.take i :: cuts c n (l.drop (i + 1)) := by
  unfold cuts
  rw [Lib.splitK, if_neg (fun e => by have := beq_iff_eq.1 e; omega), h]
  rfl
theorem cuts_none {c : UInt8} {n : Nat} {l : List UInt8} (h : Lib.index l [c] = -1) : cuts c n l = [l] := by
  unfold cuts
  cases n with
  | zero => rfl
  | succ n => rw [Lib.splitK, if_pos (beq_iff_eq.2 h)]
theorem index1_cases (l : List UInt8) (c : UInt8) : Lib.index l [c] = -1 ∨ ∃ i : Nat, Lib.index l [c] = i ∧ i < l.length := by
  rcases Lib.index_spec l [c] with ⟨h, _⟩ | ⟨i, h, _⟩
  · exact .inl h
  · have := Lib.index_room l [c] (by omega)
    simp at this
    exact .inr ⟨i, h, by omega⟩
theorem cuts_hit {c : UInt8} {n i : Nat} {l : List UInt8} (hi : l[i]? = some c) (hno : ∀ j, j < i → l[j]? ≠ some c) : cuts c (n + 1) l = l.take i :: cuts c n (l.drop (i + 1)) := by
  have hil := (List.getElem?_eq_some_iff.1 hi).1
  refine cuts_at (Lib.index_first (by omega) ((occ1_iff l c i).2 hi) (fun j hj => ?_))
  rw [← Bool.not_eq_true, occ1_iff]
  exact hno j hj
theorem cuts_miss {c : UInt8} {n : Nat} {l : List UInt8} (hno : ∀ j : Nat, l[j]? ≠ some c) : cuts c n l = [l] := by
  refine cuts_none ?_
  have : Lib.index l [c] = -1 := Lib.index_none (fun j _ => by rw [← Bool.not_eq_true, occ1_iff]; exact hno j)
  exact this
theorem cuts_len (c : UInt8) : ∀ (n : Nat) (l : List UInt8), (cuts c n l).length = min n (Lib.count l [c]) + 1 := by
  intro n
  induction n with
  | zero => intro l; simp [Lib.splitK]
  | succ n ih =>
    intro l
    rcases index1_cases l c with h | ⟨i, h, _⟩
    · rw [cuts_none h, Lib.count_miss h]; simp
    · rw [cuts_at h, List.length_cons, ih, Lib.count_hit (by simp) h]
      simp only [List.length_cons, List.length_nil, Nat.zero_add]
      omega
theorem cuts_more (c : UInt8) : ∀ (n : Nat) (l : List UInt8), Lib.count l [c] ≤ n → cuts c n l = cuts c (Lib.count l [c]) l := by
  intro n
  induction n with
  | zero => intro l h; rw [show Lib.count l [c] = 0 by omega]
  | succ n ih =>
    intro l h
    rcases index1_cases l c with hm | ⟨i, hm, _⟩
    · rw [cuts_none hm, cuts_none hm]
    · have e := Lib.count_hit (s := l) (sub := [c]) (by simp) hm
      simp only [List.length_cons, List.length_nil, Nat.zero_add] at e
      rw [cuts_at hm, e, Nat.add_comm 1, cuts_at hm, ih _ (by omega)]
theorem splitL_eq (s : ByteArray) (c : UInt8) : splitL s ⟨#[c]⟩ = (cuts c (Lib.count (LL s) [c]) (LL s)).map BB := by
  have h := Lib.splitB_data ⟨#[c]⟩ 0 (Lib.countB s ⟨#[c]⟩) s
  have e : (splitL s ⟨#[c]⟩).map LL = cuts c (Lib.count (LL s) [c]) (LL s) := h
  rw [← e, List.map_map]
  conv => lhs; rw [← List.map_id (splitL s ⟨#[c]⟩)]
  exact List.map_congr_left (fun x _ => (BB_LL x).symm)
theorem splitL_len (s : ByteArray) (c : UInt8) : (splitL s ⟨#[c]⟩).length ≤ s.size + 1 := by
  unfold splitL
  have h1 := Lib.splitB_length_le ⟨#[c]⟩ 0 (Lib.countB s ⟨#[c]⟩) s
  have h2 := Lib.countB_le ⟨#[c]⟩ (Nat.le_refl 1) s.size s (Nat.le_refl _)
  omega
theorem l1Cut_loop (s : ByteArray) (c : UInt8) (n : Nat) (hn : n ≤ 1000000) (hm : s.size ≤ 1099511627776) : ∀ d i : Nat, i + d = s.size → ∀ (out : List ByteArray) (a m : Nat), a ≤ i → out.length + m = n → (∀ j, a ≤ j → j < i → (LL s)[j]? ≠ some c) →
    Ev (fun k => spec_l1Cut.l0 k s (c.toNat : Int) (n : Int) out (a : Int) (i : Int)) (out ++ (cuts c m ((LL s).drop a)).map BB) := by
  have hsz := size_LL s
  have hlast : ∀ (out : List ByteArray) (a i : Nat), a ≤ s.size → out.length ≤ 1000000 → Ev (fun k => spec_l1Cut.j1 k s (c.toNat : Int) (n : Int) out (a : Int) (i : Int) false) (out ++ [BB ((LL s).drop a)]) := by
    intro out a i ha ho
    refine Ev.step (fun k => by rw [spec_l1Cut.j1]) ?_
    refine Ev.neg (by simp) (Ev.pos (by omega) (Ev.pos (by omega) (Ev.pos (by omega) (Ev.eq (Ev.ret _) ?_))))
    rw [Int.toNat_natCast, extract_BB, List.take_of_length_le (by rw [List.length_drop]; omega)]
  intro d
  induction d with
  | zero =>
    intro i hi out a m hai hom hno
    refine Ev.step (fun k => by rw [spec_l1Cut.l0]) ?_
    refine Ev.neg (by omega) ?_
    rw [cuts_miss (fun j => ?_)]
    · exact hlast out a i (by omega) (by omega)
    · rw [List.getElem?_drop]
      by_cases hj : a + j < i
      · exact hno _ (by omega) hj
      · rw [List.getElem?_eq_none (by omega)]; simp
  | succ d ih =>
    intro i hi out a m hai hom hno
    refine Ev.step (fun k => by rw [spec_l1Cut.l0]) ?_
    refine Ev.pos (by omega) ?_
    cases m with
    | zero =>
      rw [show (decide ((out.length : Int) < (n : Int))) = false by rw [decide_eq_false_iff_not]; omega]
      exact hlast out a i (by omega) (by omega)
    | succ m =>
      rw [show (decide ((out.length : Int) < (n : Int))) = true by rw [decide_eq_true_eq]; omega]
      refine Ev.step (fun k => by rw [spec_l1Cut.j1]) ?_
      refine Ev.pos rfl (Ev.pos (by omega) (Ev.pos (by omega) ?_))
      obtain ⟨b, hb, hbt⟩ := bt_get s i (by omega)
      rw [hbt, wsucc (by omega)]
      by_cases h : b = c
      · subst h
        refine Ev.pos rfl (Ev.pos (by omega) (Ev.pos (by omega) (Ev.pos (by omega) (Ev.pos (by omega) ?_))))
        have e := cuts_hit (c := b) (n := m) (i := i - a) (l := (LL s).drop a) (by rw [List.getElem?_drop, show a + (i - a) = i by omega]; exact hb) (fun j hj => by rw [List.getElem?_drop]; exact hno _ (by omega) (by omega))
        rw [e, List.drop_drop, show a + (i - a + 1) = i + 1 by omega]
        refine Ev.eq (ih (i + 1) (by omega) _ (i + 1) m (Nat.le_refl _) (by simp; omega) (fun j h1 h2 => by omega)) ?_
        rw [Int.toNat_natCast, Int.toNat_natCast, extract_BB, List.append_assoc]
        rfl
      · refine Ev.neg (fun e => h (u8_ext (by omega))) ?_
        refine ih (i + 1) (by omega) out a (m + 1) (by omega) hom (fun j h1 h2 => ?_)
        by_cases hj : j < i
        · exact hno j h1 hj
        · rw [show j = i by omega, hb]
          simpa using h
theorem l1Cut_ev (s : ByteArray) (c : UInt8) (n : Nat) (hn : n ≤ 1000000) (hm : s.size ≤ 1099511627776) : Ev (fun k => spec_l1Cut.f k s (c.toNat : Int) (n : Int)) ((cuts c n (LL s)).map BB) := by
  have := l1Cut_loop s c n hn hm s.size 0 (by omega) [] 0 n (Nat.le_refl _) (by simp) (fun j _ h => by omega)
  exact this
def wordCh (b : UInt8) : Bool := decide (97 ≤ b.toNat ∧ b.toNat ≤ 122) || decide (48 ≤ b.toNat ∧ b.toNat ≤ 57)
def wordL (l : List UInt8) : Bool := l.all wordCh && decide (1 ≤ l.length ∧ l.length ≤ 8)
theorem l1In_ev (a b c : Int) : spec_l1In.f a b c = some (decide (b ≤ a ∧ a ≤ c)) := by
  unfold spec_l1In.f
  by_cases h : a ≥ b
  · rw [if_pos h]
    congr 1
    rw [decide_eq_decide]
    omega
  · rw [if_neg h]
    congr 1
    symm
    rw [decide_eq_false_iff_not]
    omega
theorem within_ev (a b c : Int) : impl_within.f a b c = some (decide (b ≤ a ∧ a ≤ c)) := l1In_ev a b c
theorem l1Word_loop (s : ByteArray) (hm : s.size ≤ 9223372036854775807) : ∀ d i : Nat, i + d = s.size → Ev (fun k => spec_l1Word.l0 k s (i : Int)) (((LL s).drop i).all wordCh && decide (1 ≤ (LL s).length ∧ (LL s).length ≤ 8)) := by
  have hsz := size_LL s
  intro d
  induction d with
  | zero =>
    intro i hi
    refine Ev.step (fun k => by rw [spec_l1Word.l0]) ?_
    refine Ev.neg (by omega) (Ev.bnd (Ev.k (l1In_ev _ _ _)) (Ev.eq (Ev.ret _) ?_))
    rw [List.drop_of_length_le (by omega), List.all_nil, Bool.true_and, decide_eq_decide]
    omega
  | succ d ih =>
    intro i hi
    obtain ⟨c, hc, hb⟩ := drop_bt s i (by omega)
    have := ih (i + 1) (by omega)
    refine Ev.step (fun k => by rw [spec_l1Word.l0]) ?_
    refine Ev.pos (by omega) (Ev.pos (by omega) ?_)
    rw [hb, hc, List.all_cons, wsucc (by omega)]
    by_cases h : wordCh c = true
    · rw [h, Bool.true_and]
      unfold wordCh at h
      simp only [Bool.or_eq_true, decide_eq_true_eq] at h
      by_cases h1 : (c.toNat : Int) < 97
      · exact Ev.pos h1 (Ev.neg (by omega) (Ev.neg (by omega) this))
      · exact Ev.neg h1 (Ev.neg (by omega) this)
    · rw [Bool.not_eq_true] at h
      rw [h, Bool.false_and, Bool.false_and]
      unfold wordCh at h
      simp only [Bool.or_eq_false_iff, decide_eq_false_iff_not] at h
      by_cases h1 : (c.toNat : Int) < 97
      · refine Ev.pos h1 ?_
        by_cases h2 : (c.toNat : Int) < 48
        · exact Ev.pos h2 (Ev.ret _)
        · exact Ev.neg h2 (Ev.pos (by omega) (Ev.ret _))
      · exact Ev.neg h1 (Ev.pos (by omega) (Ev.neg (by omega) (Ev.pos (by omega) (Ev.ret _))))
theorem l1Word_ev (s : ByteArray) (hm : s.size ≤ 9223372036854775807) : Ev (fun k => spec_l1Word.f k s) (wordL (LL s)) := l1Word_loop s hm s.size 0 (by omega)
theorem dropWhile_nil (p : UInt8 → Bool) (l : List UInt8) : l.dropWhile p = [] ↔ ∀ x ∈ l, p x = true := by
  induction l with
  | nil => simp
  | cons a t ih =>
    rw [List.dropWhile_cons]
    by_cases h : p a = true
    · rw [if_pos h, ih]
      constructor
      · intro e x hx
        rcases List.mem_cons.1 hx with q | hx
        · rw [q]; exact h
        · exact e x hx
      · intro e x hx
        exact e x (List.mem_cons_of_mem _ hx)
    · rw [if_neg h]
      constructor
      · intro e; cases e
      · intro e; exact absurd (e a (List.mem_cons_self ..)) h
theorem trimS_nil (l cs : List UInt8) : Lib.trimS l cs = [] ↔ l.all (cs.contains ·) = true := by
  unfold Lib.trimS Lib.trimLeftS Lib.trimRightS
  rw [dropWhile_nil]
  constructor
  · intro h
    have : l.reverse.dropWhile (cs.contains ·) = [] := by
      cases e : l.reverse.dropWhile (cs.contains ·) with
      | nil => rfl
      | cons y t =>
        have h1 := h y (by rw [e]; simp)
        have h2 := List.head_dropWhile_not (p := (cs.contains ·)) (l := l.reverse) (by rw [e]; simp)
        simp only [e, List.head_cons] at h2
        rw [h1] at h2
        cases h2
    rw [dropWhile_nil] at this
    rw [List.all_eq_true]
    exact fun x hx => this x (List.mem_reverse.2 hx)
  · intro h x hx
    rw [List.all_eq_true] at h
    have : x ∈ l.reverse := (List.dropWhile_sublist _).subset (List.mem_reverse.1 hx)
    exact h x (List.mem_reverse.1 this)
def wordCs : List UInt8 := [97, 98, 99, 100, 101, 102, 103, 104, 105, 106, 107, 108, 109, 110, 111, 112, 113, 114, 115, 116, 117, 118, 119, 120, 121, 122, 48, 49, 50, 51, 52, 53, 54, 55, 56, 57]
theorem wordCs_all : ∀ n : Fin 256, wordCs.contains (UInt8.ofNat n.val) = wordCh (UInt8.ofNat n.val) := by decide +kernel
theorem wordCs_ok (b : UInt8) : wordCs.contains b = wordCh b := by
  have := wordCs_all ⟨b.toNat, b.toNat_lt⟩
  simpa using this
theorem isLabel_f (s : ByteArray) (hm : s.size ≤ 9223372036854775807) : impl_isLabel.f s = some (wordL (LL s)) := by
  have hsz := size_LL s
  unfold impl_isLabel.f wordL
  rw [within_ev]
  simp only [Option.bind_some]
  by_cases h : (1 : Int) ≤ (s.size : Int) ∧ (s.size : Int) ≤ 8
  · rw [if_pos (by simpa using h)]
    have ht : strings_Trim.f s (⟨#[97, 98, 99, 100, 101, 102, 103, 104, 105, 106, 107, 108, 109, 110, 111, 112, 113, 114, 115, 116, 117, 118, 119, 120, 121, 122, 48, 49, 50, 51, 52, 53, 54, 55, 56, 57]⟩ : ByteArray) = some (BB (Lib.trimS (LL s) wordCs)) := by
      unfold strings_Trim.f
      rw [if_pos ⟨hm, by decide, by decide⟩]
      rfl
    rw [ht]
    simp only [Option.bind_some]
    rw [show decide (1 ≤ (LL s).length ∧ (LL s).length ≤ 8) = true by rw [decide_eq_true_eq]; omega, Bool.and_true]
    congr 1
    rw [Bool.eq_iff_iff, beq_iff_eq, toList_BB]
    have e : BB (Lib.trimS (LL s) wordCs) = BB [] ↔ Lib.trimS (LL s) wordCs = [] := ⟨fun e => by have := congrArg LL e; rw [LL_BB, LL_BB] at this; exact this, fun e => by rw [e]⟩
    rw [e, trimS_nil]
    have : (fun x => wordCs.contains x) = wordCh := funext wordCs_ok
    rw [this]
  · rw [if_neg (by simpa using h)]
    rw [show decide (1 ≤ (LL s).length ∧ (LL s).length ≤ 8) = false by rw [decide_eq_false_iff_not]; omega, Bool.and_false]
def domL (l : List UInt8) : Bool := (cuts 46 3 l).all wordL && decide ((cuts 46 3 l).length ≤ 3)
theorem domL_all (l : List UInt8) : domL l = ((cuts 46 (Lib.count l [46]) l).all wordL && decide ((cuts 46 (Lib.count l [46]) l).length ≤ 3)) := by
  unfold domL
  by_cases h : Lib.count l [46] ≤ 3
  · rw [cuts_more 46 3 l h]
  · have e1 := cuts_len 46 3 l
    have e2 := cuts_len 46 (Lib.count l [46]) l
    rw [show decide ((cuts 46 3 l).length ≤ 3) = false by rw [decide_eq_false_iff_not]; omega, show decide ((cuts 46 (Lib.count l [46]) l).length ≤ 3) = false by rw [decide_eq_false_iff_not]; omega, Bool.and_false, Bool.and_false]
theorem all_drop_rd (x : List ByteArray) (i : Nat) (h : i < x.length) (p : ByteArray → Bool) : (x.drop i).all p = (p (rdOf ByteArray.empty x (i : Int)) && (x.drop (i + 1)).all p) := by rw [drop_rd x i h, List.all_cons]
theorem l1Domain_loop (x : List ByteArray) (hx : x.length ≤ 1000000) (hs : ∀ s ∈ x, s.size ≤ 9223372036854775807) : ∀ d i : Nat, i + d = x.length → Ev (fun k => spec_l1Domain.l0 k x (i : Int)) ((x.drop i).all (fun s => wordL (LL s)) && decide (x.length ≤ 3)) := by
  intro d
  induction d with
  | zero =>
    intro i hi
    refine Ev.step (fun k => by rw [spec_l1Domain.l0]) ?_
    refine Ev.neg (by omega) (Ev.eq (Ev.ret _) ?_)
    rw [List.drop_of_length_le (by omega), List.all_nil, Bool.true_and, decide_eq_decide]
    omega
  | succ d ih =>
    intro i hi
    refine Ev.step (fun k => by rw [spec_l1Domain.l0]) ?_
    refine Ev.pos (by omega) (Ev.pos (by omega) (Ev.bnd (l1Word_ev _ (hs _ (mem_rd x i (by omega)))) ?_))
    rw [all_drop_rd x i (by omega), wsucc (by omega)]
    by_cases h : wordL (LL (rdOf ByteArray.empty x (i : Int))) = true
    · refine Ev.pos h (Ev.eq (ih (i + 1) (by omega)) ?_)
      rw [h, Bool.true_and]
    · refine Ev.neg h (Ev.eq (Ev.ret _) ?_)
      rw [Bool.not_eq_true] at h
      rw [h, Bool.false_and, Bool.false_and]
theorem cuts_size (c : UInt8) : ∀ (n : Nat) (l : List UInt8), ∀ p ∈ cuts c n l, p.length ≤ l.length := by
  intro n
  induction n with
  | zero => intro l p hp; rw [List.mem_singleton.1 hp]; exact Nat.le_refl _
  | succ n ih =>
    intro l p hp
    rcases index1_cases l c with h | ⟨i, h, _⟩
    · rw [cuts_none h] at hp
      rw [List.mem_singleton.1 hp]; exact Nat.le_refl _
    · rw [cuts_at h] at hp
      rcases List.mem_cons.1 hp with rfl | hp
      · rw [List.length_take]; omega
      · have := ih _ p hp
        rw [List.length_drop] at this
        omega
theorem l1Domain_ev (s : ByteArray) (hm : s.size ≤ 1099511627776) : Ev (fun k => spec_l1Domain.f k s) (domL (LL s)) := by
  have hsz := size_LL s
  unfold spec_l1Domain.f
  refine Ev.bnd (l1Cut_ev s 46 3 (by omega) hm) ?_
  have hl := cuts_len 46 3 (LL s)
  have := l1Domain_loop ((cuts 46 3 (LL s)).map BB) (by rw [List.length_map]; omega) (fun t ht => by
    obtain ⟨u, hu, rfl⟩ := List.mem_map.1 ht
    have := cuts_size 46 3 (LL s) u hu
    rw [size_BB]
    omega) _ 0 (by simp; rfl)
  refine Ev.eq this ?_
  unfold domL
  rw [List.drop_zero, List.all_map, List.length_map]
  rfl
theorem implDomainOk_loop (x3 x : List ByteArray) (h3 : x3.length ≤ 1099511627777) (hx : x.length ≤ 1099511627777) (hs : ∀ s ∈ x, s.size ≤ 9223372036854775807) : ∀ d i : Nat, i + d = x.length → Ev (fun k => impl_DomainOk.l0 k x3 x (x.length : Int) (i : Int)) ((x.drop i).all (fun s => wordL (LL s)) && decide (x3.length ≤ 3)) := by
  intro d
  induction d with
  | zero =>
    intro i hi
    refine Ev.step (fun k => by rw [impl_DomainOk.l0]) ?_
    refine Ev.neg (by omega) (Ev.eq (Ev.ret _) ?_)
    rw [List.drop_of_length_le (by omega), List.all_nil, Bool.true_and, decide_eq_decide]
    omega
  | succ d ih =>
    intro i hi
    refine Ev.step (fun k => by rw [impl_DomainOk.l0]) ?_
    refine Ev.pos (by omega) (Ev.pos (by omega) (Ev.pos (by omega) (Ev.bnd (Ev.k (isLabel_f _ (hs _ (mem_rd x i (by omega))))) ?_)))
    rw [all_drop_rd x i (by omega), wsucc (by omega)]
    by_cases h : wordL (LL (rdOf ByteArray.empty x (i : Int))) = true
    · refine Ev.pos h (Ev.eq (ih (i + 1) (by omega)) ?_)
      rw [h, Bool.true_and]
    · refine Ev.neg h (Ev.eq (Ev.ret _) ?_)
      rw [Bool.not_eq_true] at h
      rw [h, Bool.false_and, Bool.false_and]
theorem implDomainOk_ev (s : ByteArray) (hm : s.size ≤ 4294967280) : Ev (fun k => impl_DomainOk.f k s) (domL (LL s)) := by
  have hsz := size_LL s
  unfold impl_DomainOk.f
  have hl := splitL_len s 46
  have hf : strings_Split.f s ⟨#[46]⟩ = some (splitL s ⟨#[46]⟩) := by
    unfold strings_Split.f
    rw [if_pos ⟨by omega, by decide, by omega⟩]
  refine Ev.bnd (Ev.k hf) ?_
  have hmem : ∀ t ∈ splitL s ⟨#[46]⟩, t.size ≤ 9223372036854775807 := fun t ht => by
    rw [splitL_eq] at ht
    obtain ⟨u, hu, rfl⟩ := List.mem_map.1 ht
    have := cuts_size 46 _ (LL s) u hu
    rw [size_BB]
    omega
  refine Ev.eq (implDomainOk_loop _ (splitL s ⟨#[46]⟩) (by omega) (by omega) hmem _ 0 (by simp; rfl)) ?_
  rw [domL_all, List.drop_zero, splitL_eq, List.all_map, List.length_map]
  rfl
def endsL (a b : List UInt8) : Bool := decide (a = b) || decide (b.length < a.length ∧ a.drop (a.length - b.length - 1) = 46 :: b)
theorem l1Ends_f (a b : ByteArray) (ha : a.size ≤ 1099511627776) (hb : b.size ≤ 1099511627776) : spec_l1Ends.f a b = some (endsL (LL a) (LL b)) := by
  have hsa := size_LL a
  have hsb := size_LL b
  unfold spec_l1Ends.f endsL
  rw [w64 (x := (a.size : Int) - (b.size : Int)) (by omega) (by omega)]
  by_cases h : a = b
  · subst h
    rw [if_pos rfl]
    simp
  · rw [if_neg (fun e => h (toList_eq.1 e)), show decide (LL a = LL b) = false by rw [decide_eq_false_iff_not]; exact fun e => h (LL_inj e), Bool.false_or]
    by_cases h1 : (a.size : Int) - (b.size : Int) > 0
    · rw [if_pos h1, if_pos (by omega), if_pos (by omega), w64 (x := (a.size : Int) - (b.size : Int) - 1) (by omega) (by omega)]
      obtain ⟨m, hm⟩ : ∃ m : Nat, a.size = b.size + 1 + m := ⟨a.size - b.size - 1, by omega⟩
      have e1 : ((a.size : Int) - (b.size : Int)).toNat = m + 1 := by omega
      have e2 : (a.size : Int) - (b.size : Int) - 1 = (m : Int) := by omega
      have e3 : (LL a).length - (LL b).length - 1 = m := by omega
      rw [e1, e2, e3]
      obtain ⟨c, hc, hbt⟩ := drop_bt a m (by omega)
      rw [hbt, hc]
      have hx : (a.extract (m + 1) a.size).toList = b.toList ↔ (LL a).drop (m + 1) = LL b := by
        rw [toList_LL, toList_LL, LL_extract, List.take_of_length_le (by rw [List.length_drop]; omega)]
      by_cases h2 : (LL a).drop (m + 1) = LL b
      · rw [if_pos (hx.2 h2), if_pos (by omega), if_pos (by omega)]
        congr 1
        rw [Bool.eq_iff_iff, beq_iff_eq, decide_eq_true_eq, h2]
        constructor
        · intro e
          exact ⟨by omega, by rw [show c = 46 from u8_ext (by simp; omega)]⟩
        · intro e
          have := (List.cons.inj e.2).1
          rw [this]; rfl
      · rw [if_neg (fun e => h2 (hx.1 e))]
        congr 1
        symm
        rw [decide_eq_false_iff_not]
        exact fun e => h2 (List.cons.inj e.2).2
    · rw [if_neg h1]
      congr 1
      symm
      rw [decide_eq_false_iff_not]
      omega
theorem hasSuffix_f (a b : ByteArray) (ha : a.size ≤ 9223372036854775807) (hb : b.size ≤ 9223372036854775807) : strings_HasSuffix.f a b = some (decide (b.size ≤ a.size ∧ (LL a).drop (a.size - b.size) = LL b)) := by
  have hsa := size_LL a
  have hsb := size_LL b
  unfold strings_HasSuffix.f stringslite_HasSuffix.f
  by_cases h : (a.size : Int) ≥ (b.size : Int)
  · rw [if_pos h, w64 (x := (a.size : Int) - (b.size : Int)) (by omega) (by omega), if_pos (by omega), if_pos (by omega)]
    simp only [Option.bind_some]
    congr 1
    rw [Bool.eq_iff_iff, beq_iff_eq, decide_eq_true_eq, toList_LL, toList_LL, LL_extract, show ((a.size : Int) - (b.size : Int)).toNat = a.size - b.size by omega, List.take_of_length_le (by rw [List.length_drop]; omega)]
    exact ⟨fun e => ⟨by omega, e⟩, fun e => e.2⟩
  · rw [if_neg h]
    simp only [Option.bind_some]
    congr 1
    symm
    rw [decide_eq_false_iff_not]
    omega
theorem endsL_suffix (a b : ByteArray) : endsL (LL a) (LL b) = (decide (a = b) || decide (1 + b.size ≤ a.size ∧ (LL a).drop (a.size - (1 + b.size)) = 46 :: LL b)) := by
  have hsa := size_LL a
  have hsb := size_LL b
  unfold endsL
  congr 1
  · rw [decide_eq_decide]
    exact ⟨fun e => LL_inj e, fun e => by rw [e]⟩
  · rw [decide_eq_decide, show (LL a).length - (LL b).length - 1 = a.size - (1 + b.size) by omega]
    constructor
    · intro e; exact ⟨by omega, e.2⟩
    · intro e; exact ⟨by omega, e.2⟩
end Go.Proofs.YthkibaldmjfmmaaDoor.Q
namespace Go.Proofs.YthkibaldmjfmmaaDoor.Q
open Go.RowKit Go.Proofs.YthkibaldmjfmmaaDoorW.PrintWords Go.Proofs.YthkibaldmjfmmaaDoorW.PrintLast Go.Proofs.YthkibaldmjfmmaaDoorW.PrintMore
set_option linter.unusedVariables false
set_option linter.unusedSimpArgs false
theorem eqStringS_loop (a b : List ByteArray) (hl : a.length = b.length) (hm : a.length ≤ 4611686018427387904) : ∀ d i : Nat, i + d = a.length → Ev (fun k => laws_eqStringS.l0 k a b (i : Int)) (decide (a.drop i = b.drop i)) := by
  intro d
  induction d with
  | zero =>
    intro i hi
    refine Ev.step (fun k => by rw [laws_eqStringS.l0]) ?_
    refine Ev.neg (by omega) (Ev.k ?_)
    rw [List.drop_of_length_le (by omega), List.drop_of_length_le (by omega)]
    rfl
  | succ d ih =>
    intro i hi
    refine Ev.step (fun k => by rw [laws_eqStringS.l0]) ?_
    refine Ev.pos (by omega) (Ev.pos (by omega) (Ev.pos (by omega) ?_))
    rw [drop_rd a i (by omega), drop_rd b i (by omega)]
    by_cases h : rdOf ByteArray.empty a (i : Int) = rdOf ByteArray.empty b (i : Int)
    · refine Ev.pos (toList_eq.2 h) ?_
      rw [wsucc (by omega), h]
      exact Ev.eq (ih (i + 1) (by omega)) (by simp)
    · refine Ev.neg (fun e => h (toList_eq.1 e)) (Ev.k ?_)
      simp [h]
theorem eqStringS_ev (a b : List ByteArray) (hm : a.length ≤ 4611686018427387904) : Ev (fun k => laws_eqStringS.f k a b) (decide (a = b)) := by
  unfold laws_eqStringS.f
  by_cases h : a.length = b.length
  · refine Ev.pos (by omega) ?_
    exact Ev.eq (eqStringS_loop a b h hm a.length 0 (by omega)) (by simp)
  · refine Ev.neg (by omega) (Ev.k ?_)
    have : a ≠ b := fun e => h (by rw [e])
    simp [this]
end Go.Proofs.YthkibaldmjfmmaaDoor.Q
namespace Go.Proofs.YthkibaldmjfmmaaDoor.Q
open Go.RowKit Go.Proofs.YthkibaldmjfmmaaDoorW.PrintWords Go.Proofs.YthkibaldmjfmmaaDoorW.PrintLast Go.Proofs.YthkibaldmjfmmaaDoorW.PrintMore
set_option linter.unusedVariables false
set_option linter.unusedSimpArgs false
theorem szStringS_loop (l : List ByteArray) (hm : l.length ≤ 9223372036854775807) (hs : ∀ s ∈ l, s.size ≤ 9223372036854775807) : ∀ d i : Nat, i + d = l.length → ∀ a : Int, 0 ≤ a → a ≤ 1048576 →
    ∃ r, Ev (fun k => laws_szStringS.l0 k l a (i : Int)) r ∧ r ≤ a ∧ (0 ≤ r → ∀ s ∈ l.drop i, (s.size : Int) ≤ a) := by
  intro d
  induction d with
  | zero =>
    intro i hi a h0 h1
    refine ⟨a, ?_, Int.le_refl _, fun _ s hs => by rw [List.drop_of_length_le (by omega)] at hs; cases hs⟩
    refine Ev.step (fun k => by rw [laws_szStringS.l0]) ?_
    exact Ev.neg (by omega) (Ev.ret _)
  | succ d ih =>
    intro i hi a h0 h1
    have hz := hs _ (mem_rd l i (by omega))
    have hw : wrap64 (a - ((rdOf ByteArray.empty l (i : Int)).size : Int)) = a - ((rdOf ByteArray.empty l (i : Int)).size : Int) := w64 (by omega) (by omega)
    by_cases h : a - ((rdOf ByteArray.empty l (i : Int)).size : Int) < 0
    · refine ⟨-1, ?_, by omega, by omega⟩
      refine Ev.step (fun k => by rw [laws_szStringS.l0]) ?_
      refine Ev.pos (by omega) (Ev.pos (by omega) ?_)
      rw [hw]
      exact Ev.pos h (Ev.ret _)
    · obtain ⟨r, hr, hle, hall⟩ := ih (i + 1) (by omega) (a - ((rdOf ByteArray.empty l (i : Int)).size : Int)) (by omega) (by omega)
      refine ⟨r, ?_, by omega, fun h0' s hs' => ?_⟩
      · refine Ev.step (fun k => by rw [laws_szStringS.l0]) ?_
        refine Ev.pos (by omega) (Ev.pos (by omega) ?_)
        rw [hw]
        refine Ev.neg h ?_
        rw [wsucc (by omega)]
        exact hr
      · rw [drop_rd l i (by omega)] at hs'
        rcases List.mem_cons.1 hs' with rfl | hs'
        · omega
        · have := hall h0' s hs'
          omega
theorem szStringS_ev (l : List ByteArray) (hm : l.length ≤ 9223372036854775807) (hs : ∀ s ∈ l, s.size ≤ 9223372036854775807) (a : Int) (h0 : 0 ≤ a) (h1 : a ≤ 1048576) :
    ∃ r, Ev (fun k => laws_szStringS.f k l a) r ∧ r ≤ a ∧ (0 ≤ r → (l.length : Int) ≤ a ∧ ∀ s ∈ l, (s.size : Int) ≤ a) := by
  unfold laws_szStringS.f
  have hw : wrap64 (a - (l.length : Int)) = a - (l.length : Int) := w64 (by omega) (by omega)
  rw [hw]
  by_cases h : a - (l.length : Int) < 0
  · exact ⟨-1, Ev.pos h (Ev.ret _), by omega, by omega⟩
  · obtain ⟨r, hr, hle, hall⟩ := szStringS_loop l hm hs l.length 0 (by omega) (a - (l.length : Int)) (by omega) (by omega)
    refine ⟨r, Ev.neg h hr, by omega, fun h0' => ⟨by omega, fun s hs' => ?_⟩⟩
    have := hall h0' s (by simpa using hs')
    omega
theorem toStringS_loop (l : List ByteArray) (hm : l.length ≤ 1099511627776) : ∀ d i : Nat, i + d = l.length → ∀ x : List ByteArray, x.length = l.length → x.take i = l.take i →
    Ev (fun k => laws_toStringS.l0 k l x (i : Int)) l := by
  intro d
  induction d with
  | zero =>
    intro i hi x hx ht
    refine Ev.step (fun k => by rw [laws_toStringS.l0]) ?_
    refine Ev.neg (by omega) (Ev.k ?_)
    rw [List.take_of_length_le (by omega), List.take_of_length_le (by omega)] at ht
    rw [ht]
  | succ d ih =>
    intro i hi x hx ht
    refine Ev.step (fun k => by rw [laws_toStringS.l0]) ?_
    refine Ev.pos (by omega) (Ev.pos (by omega) (Ev.pos (by omega) ?_))
    rw [wsucc (by omega), Int.toNat_natCast]
    refine ih (i + 1) (by omega) _ (by rw [List.length_set, hx]) ?_
    rw [List.take_succ_eq_append_getElem (by rw [List.length_set]; omega), List.take_succ_eq_append_getElem (by omega), List.take_set_of_le (by omega), ht]
    congr 2
    rw [List.getElem_set_self, rd_get l i (by omega)]
theorem toStringS_ev (l : List ByteArray) (hm : l.length ≤ 1099511627776) : Ev (fun k => laws_toStringS.f k l) l := by
  unfold laws_toStringS.f
  refine Ev.pos (by omega) ?_
  rw [Int.toNat_natCast]
  refine Ev.pos (by omega) ?_
  exact toStringS_loop l hm l.length 0 (by omega) _ (by simp) (by simp)
end Go.Proofs.YthkibaldmjfmmaaDoor.Q
namespace Go.Proofs.YthkibaldmjfmmaaDoor.Q
open Go.RowKit Go.Proofs.YthkibaldmjfmmaaDoorW.PrintWords Go.Proofs.YthkibaldmjfmmaaDoorW.PrintLast Go.Proofs.YthkibaldmjfmmaaDoorW.PrintMore
set_option linter.unusedVariables false
set_option linter.unusedSimpArgs false
abbrev LW := S116
abbrev IW := S117
theorem szWay_f (x y : ByteArray) (hx : x.size ≤ 9223372036854775807) (hy : y.size ≤ 9223372036854775807) (a : Int) (h0 : 0 ≤ a) (h1 : a ≤ 1048576) :
    ∃ r, laws_szWay.f x y a = some r ∧ r ≤ a ∧ (0 ≤ r → (x.size : Int) ≤ a ∧ (y.size : Int) ≤ a) := by
  unfold laws_szWay.f
  have hw : wrap64 (a - (x.size : Int)) = a - (x.size : Int) := w64 (by omega) (by omega)
  rw [hw]
  by_cases h : a - (x.size : Int) < 0
  · exact ⟨-1, if_pos h, by omega, by omega⟩
  · have hw2 : wrap64 (a - (x.size : Int) - (y.size : Int)) = a - (x.size : Int) - (y.size : Int) := w64 (by omega) (by omega)
    rw [if_neg h, hw2]
    by_cases h2 : a - (x.size : Int) - (y.size : Int) < 0
    · exact ⟨-1, if_pos h2, by omega, by omega⟩
    · exact ⟨_, if_neg h2, by omega, by omega⟩
theorem rdLW (l : List LW) (i : Nat) (h : i < l.length) : rd_T116 l (i : Int) = l[i] := by
  unfold rd_T116
  rw [Int.toNat_natCast, List.getD_eq_getElem?_getD, List.getElem?_eq_getElem h]
  rfl
theorem rdIW (l : List IW) (i : Nat) (h : i < l.length) : rd_T117 l (i : Int) = l[i] := by
  unfold rd_T117
  rw [Int.toNat_natCast, List.getD_eq_getElem?_getD, List.getElem?_eq_getElem h]
  rfl
theorem szWayS_loop (l : List LW) (hm : l.length ≤ 9223372036854775807) (hs : ∀ s ∈ l, s.f0.size ≤ 9223372036854775807 ∧ s.f1.size ≤ 9223372036854775807) : ∀ d i : Nat, i + d = l.length → ∀ a : Int, 0 ≤ a → a ≤ 1048576 →
    ∃ r, Ev (fun k => laws_szWayS.l0 k l a (i : Int)) r ∧ r ≤ a ∧ (0 ≤ r → ∀ s ∈ l.drop i, (s.f0.size : Int) ≤ a ∧ (s.f1.size : Int) ≤ a) := by
  intro d
  induction d with
  | zero =>
    intro i hi a h0 h1
    refine ⟨a, ?_, Int.le_refl _, fun _ s hs => by rw [List.drop_of_length_le (by omega)] at hs; cases hs⟩
    refine Ev.step (fun k => by rw [laws_szWayS.l0]) ?_
    exact Ev.neg (by omega) (Ev.ret _)
  | succ d ih =>
    intro i hi a h0 h1
    have hil : i < l.length := by omega
    obtain ⟨z0, z1⟩ := hs l[i] (List.getElem_mem hil)
    obtain ⟨r, hr, hle, hall⟩ := szWay_f _ _ z0 z1 a h0 h1
    by_cases h : r < 0
    · refine ⟨-1, ?_, by omega, by omega⟩
      refine Ev.step (fun k => by rw [laws_szWayS.l0]) ?_
      refine Ev.pos (by omega) (Ev.pos (by omega) ?_)
      rw [rdLW l i hil]
      exact Ev.bnd (Ev.k hr) (Ev.pos h (Ev.ret _))
    · obtain ⟨q, hq, hle2, hall2⟩ := ih (i + 1) (by omega) r (by omega) (by omega)
      refine ⟨q, ?_, by omega, fun h0' s hs' => ?_⟩
      · refine Ev.step (fun k => by rw [laws_szWayS.l0]) ?_
        refine Ev.pos (by omega) (Ev.pos (by omega) ?_)
        rw [rdLW l i hil]
        refine Ev.bnd (Ev.k hr) (Ev.neg h ?_)
        rw [wsucc (by omega)]
        exact hq
      · rw [List.drop_eq_getElem_cons hil] at hs'
        rcases List.mem_cons.1 hs' with rfl | hs'
        · exact hall (by omega)
        · have := hall2 h0' s hs'
          omega
theorem szWayS_ev (l : List LW) (hm : l.length ≤ 9223372036854775807) (hs : ∀ s ∈ l, s.f0.size ≤ 9223372036854775807 ∧ s.f1.size ≤ 9223372036854775807) (a : Int) (h0 : 0 ≤ a) (h1 : a ≤ 1048576) :
    ∃ r, Ev (fun k => laws_szWayS.f k l a) r ∧ r ≤ a ∧ (0 ≤ r → (l.length : Int) ≤ a ∧ ∀ s ∈ l, (s.f0.size : Int) ≤ a ∧ (s.f1.size : Int) ≤ a) := by
  unfold laws_szWayS.f
  have hw : wrap64 (a - (l.length : Int)) = a - (l.length : Int) := w64 (by omega) (by omega)
  rw [hw]
  by_cases h : a - (l.length : Int) < 0
  · exact ⟨-1, Ev.pos h (Ev.ret _), by omega, by omega⟩
  · obtain ⟨r, hr, hle, hall⟩ := szWayS_loop l hm hs l.length 0 (by omega) (a - (l.length : Int)) (by omega) (by omega)
    refine ⟨r, Ev.neg h hr, by omega, fun h0' => ⟨by omega, fun s hs' => ?_⟩⟩
    have := hall h0' s (by simpa using hs')
    omega
def toIW (x : LW) : IW := ⟨x.f0, x.f1⟩
theorem toWayS_loop (l : List LW) (hm : l.length ≤ 1099511627776) : ∀ d i : Nat, i + d = l.length → ∀ x : List IW, x.length = l.length → x.take i = (l.take i).map toIW →
    Ev (fun k => laws_toWayS.l0 k l x (i : Int)) (l.map toIW) := by
  intro d
  induction d with
  | zero =>
    intro i hi x hx ht
    refine Ev.step (fun k => by rw [laws_toWayS.l0]) ?_
    refine Ev.neg (by omega) (Ev.k ?_)
    rw [List.take_of_length_le (by omega), List.take_of_length_le (by omega)] at ht
    rw [ht]
  | succ d ih =>
    intro i hi x hx ht
    have hil : i < l.length := by omega
    refine Ev.step (fun k => by rw [laws_toWayS.l0]) ?_
    refine Ev.pos (by omega) (Ev.pos (by omega) ?_)
    rw [rdLW l i hil]
    refine Ev.bnd (Ev.k (show laws_toWay.f _ _ = some _ from rfl)) ?_
    refine Ev.pos (by omega) ?_
    rw [wsucc (by omega), Int.toNat_natCast]
    refine ih (i + 1) (by omega) _ (by rw [List.length_set, hx]) ?_
    rw [List.take_succ_eq_append_getElem (by rw [List.length_set]; omega), List.take_succ_eq_append_getElem (by omega), List.take_set_of_le (by omega), ht, List.map_append]
    congr 2
    rw [List.getElem_set_self]
    rfl
theorem toWayS_ev (l : List LW) (hm : l.length ≤ 1099511627776) : Ev (fun k => laws_toWayS.f k l) (l.map toIW) := by
  unfold laws_toWayS.f
  refine Ev.pos (by omega) ?_
  rw [Int.toNat_natCast]
  refine Ev.pos (by omega) ?_
  exact toWayS_loop l hm l.length 0 (by omega) _ (by simp) (by simp)
theorem eqWay_refl (x y : ByteArray) : laws_eqWay.f x y x y = some true := by
  unfold laws_eqWay.f
  rw [if_pos rfl, if_pos rfl]
theorem eqWayS_loop (l : List IW) (hm : l.length ≤ 1099511627776) : ∀ d i : Nat, i + d = l.length → Ev (fun k => laws_eqWayS.l0 k l l (i : Int)) true := by
  intro d
  induction d with
  | zero =>
    intro i hi
    refine Ev.step (fun k => by rw [laws_eqWayS.l0]) ?_
    exact Ev.neg (by omega) (Ev.ret _)
  | succ d ih =>
    intro i hi
    refine Ev.step (fun k => by rw [laws_eqWayS.l0]) ?_
    refine Ev.pos (by omega) (Ev.pos (by omega) (Ev.pos (by omega) ?_))
    refine Ev.bnd (Ev.k (eqWay_refl _ _)) ?_
    refine Ev.pos rfl ?_
    rw [wsucc (by omega)]
    exact ih (i + 1) (by omega)
theorem eqWayS_refl (l : List IW) (hm : l.length ≤ 1099511627776) : Ev (fun k => laws_eqWayS.f k l l) true := by
  unfold laws_eqWayS.f
  exact Ev.pos rfl (eqWayS_loop l hm l.length 0 (by omega))
def ConfSmall (a0 : ByteArray) (l1 : List ByteArray) (l2 : List LW) : Prop := a0.size ≤ 1048576 ∧ (l1.length ≤ 1048576 ∧ ∀ s ∈ l1, s.size ≤ 1048576) ∧ l2.length ≤ 1048576 ∧ ∀ s ∈ l2, s.f0.size ≤ 1048576 ∧ s.f1.size ≤ 1048576
theorem szConf_ev (a0 : ByteArray) (l1 : List ByteArray) (l2 : List LW) (h0 : a0.size ≤ 9223372036854775807) (h1 : l1.length ≤ 9223372036854775807 ∧ ∀ s ∈ l1, s.size ≤ 9223372036854775807)
    (h2 : l2.length ≤ 9223372036854775807 ∧ ∀ s ∈ l2, s.f0.size ≤ 9223372036854775807 ∧ s.f1.size ≤ 9223372036854775807) (a : Int) (ha : 0 ≤ a) (hb : a ≤ 1048576) :
    ∃ r, Ev (fun k => laws_szConf.f k a0 l1 l2 a) r ∧ r ≤ a ∧ (0 ≤ r → ConfSmall a0 l1 l2) := by
  unfold laws_szConf.f
  have hw : wrap64 (a - (a0.size : Int)) = a - (a0.size : Int) := w64 (by omega) (by omega)
  rw [hw]
  by_cases h : a - (a0.size : Int) < 0
  · exact ⟨-1, Ev.pos h (Ev.ret _), by omega, by omega⟩
  · obtain ⟨t, ht, hle, hall⟩ := szStringS_ev l1 h1.1 h1.2 (a - (a0.size : Int)) (by omega) (by omega)
    by_cases h' : t < 0
    · exact ⟨-1, Ev.neg h (Ev.bnd ht (Ev.pos h' (Ev.ret _))), by omega, by omega⟩
    · obtain ⟨q, hq, hle2, hall2⟩ := szWayS_ev l2 h2.1 h2.2 t (by omega) (by omega)
      by_cases h'' : q < 0
      · exact ⟨-1, Ev.neg h (Ev.bnd ht (Ev.neg h' (Ev.bnd hq (Ev.pos h'' (Ev.ret _))))), by omega, by omega⟩
      · have e1 := hall (by omega)
        have e2 := hall2 (by omega)
        refine ⟨q, Ev.neg h (Ev.bnd ht (Ev.neg h' (Ev.bnd hq (Ev.neg h'' (Ev.ret _))))), by omega, fun _ => ⟨by omega, ⟨by omega, fun s hs => ?_⟩, by omega, fun s hs => ?_⟩⟩
        · have := e1.2 s hs; omega
        · have := e2.2 s hs; omega
theorem toConf_ev (a0 : ByteArray) (l1 : List ByteArray) (l2 : List LW) (h : ConfSmall a0 l1 l2) : Ev (fun k => laws_toConf.f k a0 l1 l2) (a0, l1, l2.map toIW) := by
  unfold laws_toConf.f
  obtain ⟨_, h1, h2, _⟩ := h
  exact Ev.bnd (toStringS_ev l1 (by omega)) (Ev.bnd (toWayS_ev l2 (by omega)) (Ev.ret _))
theorem eqConf_refl (a0 : ByteArray) (l1 : List ByteArray) (l2 : List IW) (h1 : l1.length ≤ 1099511627776) (h2 : l2.length ≤ 1099511627776) : Ev (fun k => laws_eqConf.f k a0 l1 l2 a0 l1 l2) true := by
  unfold laws_eqConf.f
  exact Ev.pos rfl (Ev.bnd (eqStringS_ev l1 l1 (by omega)) (Ev.pos (by simp) (Ev.bnd (eqWayS_refl l2 h2) (Ev.pos rfl (Ev.ret _)))))
def wayL (w : IW) : Bool := domL (LL w.f0) && domL (LL w.f1)
def ownL (s : ByteArray) : Bool := domL (LL s)
def confL (n : ByteArray) (own : List ByteArray) (ways : List IW) : Bool := own.all ownL && ways.all wayL && ownL n && decide (own.length ≤ 3) && decide (ways.length ≤ 4)
theorem l3ConfOk_loop1 (n : ByteArray) (own : List ByteArray) (ways : List IW) (hn : n.size ≤ 1099511627776) (hm : ways.length ≤ 1099511627776) (hs : ∀ s ∈ ways, s.f0.size ≤ 1099511627776 ∧ s.f1.size ≤ 1099511627776) : ∀ d i : Nat, i + d = ways.length →
    Ev (fun k => spec_l3ConfOk.l1 k (i : Int) n own ways) ((ways.drop i).all wayL && ownL n && decide (own.length ≤ 3) && decide (ways.length ≤ 4)) := by
  intro d
  induction d with
  | zero =>
    intro i hi
    rw [List.drop_of_length_le (by omega), List.all_nil, Bool.true_and]
    refine Ev.step (fun k => by rw [spec_l3ConfOk.l1]) ?_
    refine Ev.neg (by omega) (Ev.bnd (l1Domain_ev n hn) ?_)
    by_cases h1 : domL (LL n) = true
    · refine Ev.pos h1 ?_
      have e1 : ownL n = true := h1
      rw [e1, Bool.true_and]
      by_cases h2 : (own.length : Int) ≤ 3
      · refine Ev.pos h2 (Ev.eq (Ev.ret _) ?_)
        rw [show decide (own.length ≤ 3) = true by rw [decide_eq_true_eq]; omega, Bool.true_and, decide_eq_decide]
        omega
      · refine Ev.neg h2 (Ev.eq (Ev.ret _) ?_)
        rw [show decide (own.length ≤ 3) = false by rw [decide_eq_false_iff_not]; omega, Bool.false_and]
    · refine Ev.neg h1 (Ev.eq (Ev.ret _) ?_)
      rw [Bool.not_eq_true] at h1
      have e1 : ownL n = false := h1
      rw [e1]
      simp
  | succ d ih =>
    intro i hi
    have hil : i < ways.length := by omega
    obtain ⟨z0, z1⟩ := hs ways[i] (List.getElem_mem hil)
    rw [List.drop_eq_getElem_cons hil, List.all_cons]
    refine Ev.step (fun k => by rw [spec_l3ConfOk.l1]) ?_
    refine Ev.pos (by omega) (Ev.pos (by omega) ?_)
    rw [rdIW ways i hil, wsucc (by omega)]
    refine Ev.bnd (l1Domain_ev _ z0) ?_
    by_cases h1 : domL (LL ways[i].f0) = true
    · refine Ev.pos h1 (Ev.bnd (l1Domain_ev _ z1) ?_)
      by_cases h2 : domL (LL ways[i].f1) = true
      · refine Ev.pos h2 (Ev.eq (ih (i + 1) (by omega)) ?_)
        have : wayL ways[i] = true := by unfold wayL; rw [h1, h2]; rfl
        rw [this, Bool.true_and]
      · refine Ev.neg h2 (Ev.eq (Ev.ret _) ?_)
        rw [Bool.not_eq_true] at h2
        have : wayL ways[i] = false := by unfold wayL; rw [h1, h2]; rfl
        rw [this]
        simp
    · refine Ev.neg h1 (Ev.eq (Ev.ret _) ?_)
      rw [Bool.not_eq_true] at h1
      have : wayL ways[i] = false := by unfold wayL; rw [h1]; rfl
      rw [this]
      simp
theorem l3ConfOk_loop0 (n : ByteArray) (own : List ByteArray) (ways : List IW) (hn : n.size ≤ 1099511627776) (ho : own.length ≤ 1099511627776) (hos : ∀ s ∈ own, s.size ≤ 1099511627776) (hm : ways.length ≤ 1099511627776) (hs : ∀ s ∈ ways, s.f0.size ≤ 1099511627776 ∧ s.f1.size ≤ 1099511627776) : ∀ d i : Nat, i + d = own.length →
    Ev (fun k => spec_l3ConfOk.l0 k (i : Int) n own ways) ((own.drop i).all ownL && ways.all wayL && ownL n && decide (own.length ≤ 3) && decide (ways.length ≤ 4)) := by
  intro d
  induction d with
  | zero =>
    intro i hi
    rw [List.drop_of_length_le (by omega), List.all_nil, Bool.true_and]
    refine Ev.step (fun k => by rw [spec_l3ConfOk.l0]) ?_
    have := l3ConfOk_loop1 n own ways hn hm hs ways.length 0 (by omega)
    rw [List.drop_zero] at this
    exact Ev.neg (by omega) this
  | succ d ih =>
    intro i hi
    refine Ev.step (fun k => by rw [spec_l3ConfOk.l0]) ?_
    refine Ev.pos (by omega) (Ev.pos (by omega) (Ev.bnd (l1Domain_ev _ (hos _ (mem_rd own i (by omega)))) ?_))
    rw [drop_rd own i (by omega), List.all_cons, wsucc (by omega)]
    by_cases h : domL (LL (rdOf ByteArray.empty own (i : Int))) = true
    · refine Ev.pos h (Ev.eq (ih (i + 1) (by omega)) ?_)
      have : ownL (rdOf ByteArray.empty own (i : Int)) = true := h
      rw [this, Bool.true_and]
    · refine Ev.neg h (Ev.eq (Ev.ret _) ?_)
      rw [Bool.not_eq_true] at h
      have : ownL (rdOf ByteArray.empty own (i : Int)) = false := h
      rw [this]
      simp
theorem l3ConfOk_ev (n : ByteArray) (own : List ByteArray) (ways : List IW) (hn : n.size ≤ 1099511627776) (ho : own.length ≤ 1099511627776) (hos : ∀ s ∈ own, s.size ≤ 1099511627776) (hm : ways.length ≤ 1099511627776) (hs : ∀ s ∈ ways, s.f0.size ≤ 1099511627776 ∧ s.f1.size ≤ 1099511627776) :
    Ev (fun k => spec_l3ConfOk.f k n own ways) (confL n own ways) := by
  have := l3ConfOk_loop0 n own ways hn ho hos hm hs own.length 0 (by omega)
  rw [List.drop_zero] at this
  exact this
theorem ownIndex_loop (l : List ByteArray) (hm : l.length ≤ 1099511627776) (hs : ∀ s ∈ l, s.size ≤ 4294967280) : ∀ d i : Nat, i + d = l.length →
    ∃ r, Ev (fun k => slices_IndexFunc_string_string_at104.l0 k l (l.length : Int) (i : Int)) r ∧ (decide (r ≥ 0) = !(l.drop i).all ownL) := by
  intro d
  induction d with
  | zero =>
    intro i hi
    refine ⟨-1, Ev.step (fun k => by rw [slices_IndexFunc_string_string_at104.l0]) (Ev.neg (by omega) (Ev.ret _)), ?_⟩
    rw [List.drop_of_length_le (by omega)]
    rfl
  | succ d ih =>
    intro i hi
    have hc : Ev (fun k => impl_ConfOk_1.f k (rdOf ByteArray.empty l (i : Int))) (!ownL (rdOf ByteArray.empty l (i : Int))) := Ev.bnd (implDomainOk_ev _ (hs _ (mem_rd l i (by omega)))) (Ev.ret _)
    rw [drop_rd l i (by omega), List.all_cons]
    by_cases h : ownL (rdOf ByteArray.empty l (i : Int)) = true
    · obtain ⟨r, hr, hd⟩ := ih (i + 1) (by omega)
      rw [h] at hc
      refine ⟨r, Ev.step (fun k => by rw [slices_IndexFunc_string_string_at104.l0]) (Ev.pos (by omega) (Ev.pos (by omega) (Ev.pos (by omega) (Ev.bnd hc (Ev.neg (show ¬ ((!true) = true) by decide) ?_))))), by rw [h, Bool.true_and]; exact hd⟩
      rw [wsucc (by omega)]
      exact hr
    · rw [Bool.not_eq_true] at h
      rw [h] at hc
      refine ⟨(i : Int), Ev.step (fun k => by rw [slices_IndexFunc_string_string_at104.l0]) (Ev.pos (by omega) (Ev.pos (by omega) (Ev.pos (by omega) (Ev.bnd hc (Ev.pos rfl (Ev.ret _)))))), by rw [h]; simp⟩
theorem wayIndex_loop (l : List IW) (hm : l.length ≤ 1099511627776) (hs : ∀ s ∈ l, s.f0.size ≤ 4294967280 ∧ s.f1.size ≤ 4294967280) : ∀ d i : Nat, i + d = l.length →
    ∃ r, Ev (fun k => slices_IndexFunc_impl_Way_impl_Way_at105.l0 k l (l.length : Int) (i : Int)) r ∧ (decide (r ≥ 0) = !(l.drop i).all wayL) := by
  intro d
  induction d with
  | zero =>
    intro i hi
    refine ⟨-1, Ev.step (fun k => by rw [slices_IndexFunc_impl_Way_impl_Way_at105.l0]) (Ev.neg (by omega) (Ev.ret _)), ?_⟩
    rw [List.drop_of_length_le (by omega)]
    rfl
  | succ d ih =>
    intro i hi
    have hil : i < l.length := by omega
    obtain ⟨z0, z1⟩ := hs l[i] (List.getElem_mem hil)
    have hc : Ev (fun k => impl_ConfOk_2.f k l[i].f0 l[i].f1) (!wayL l[i]) := by
      unfold impl_ConfOk_2.f wayL
      refine Ev.bnd (implDomainOk_ev _ z0) ?_
      by_cases h : domL (LL l[i].f0) = true
      · refine Ev.pos h (Ev.bnd (implDomainOk_ev _ z1) (Ev.eq (Ev.ret _) ?_))
        rw [h, Bool.true_and]
      · refine Ev.neg h (Ev.eq (Ev.ret _) ?_)
        rw [Bool.not_eq_true] at h
        rw [h]
        rfl
    rw [List.drop_eq_getElem_cons hil, List.all_cons]
    by_cases h : wayL l[i] = true
    · obtain ⟨r, hr, hd⟩ := ih (i + 1) (by omega)
      rw [h] at hc
      refine ⟨r, Ev.step (fun k => by rw [slices_IndexFunc_impl_Way_impl_Way_at105.l0]) (Ev.pos (by omega) (Ev.pos (by omega) (Ev.pos (by omega) ?_))), by rw [h, Bool.true_and]; exact hd⟩
      rw [rdIW l i hil]
      refine Ev.bnd hc (Ev.neg (by simp) ?_)
      rw [wsucc (by omega)]
      exact hr
    · rw [Bool.not_eq_true] at h
      rw [h] at hc
      refine ⟨(i : Int), Ev.step (fun k => by rw [slices_IndexFunc_impl_Way_impl_Way_at105.l0]) (Ev.pos (by omega) (Ev.pos (by omega) (Ev.pos (by omega) ?_))), by rw [h, Bool.false_and]; exact decide_eq_true (by omega)⟩
      rw [rdIW l i hil]
      exact Ev.bnd hc (Ev.pos rfl (Ev.ret _))
theorem implConfOk_ev (n : ByteArray) (own : List ByteArray) (ways : List IW) (hn : n.size ≤ 4294967280) (ho : own.length ≤ 1099511627776) (hos : ∀ s ∈ own, s.size ≤ 4294967280) (hm : ways.length ≤ 1099511627776) (hs : ∀ s ∈ ways, s.f0.size ≤ 4294967280 ∧ s.f1.size ≤ 4294967280) :
    Ev (fun k => impl_ConfOk.f k n own ways) (confL n own ways) := by
  unfold impl_ConfOk.f confL
  refine Ev.bnd (implDomainOk_ev n hn) ?_
  by_cases h1 : domL (LL n) = true
  · refine Ev.pos h1 ?_
    have e1 : ownL n = true := h1
    by_cases h2 : (own.length : Int) ≤ 3
    · refine Ev.pos h2 ?_
      have e2 : decide (own.length ≤ 3) = true := by rw [decide_eq_true_eq]; omega
      by_cases h3 : (ways.length : Int) ≤ 4
      · refine Ev.pos h3 ?_
        have e3 : decide (ways.length ≤ 4) = true := by rw [decide_eq_true_eq]; omega
        obtain ⟨r, hr, hd⟩ := ownIndex_loop own ho hos own.length 0 (by omega)
        obtain ⟨q, hq, hd2⟩ := wayIndex_loop ways hm hs ways.length 0 (by omega)
        rw [List.drop_zero] at hd hd2
        have hc : Ev (fun k => slices_ContainsFunc_string_string_at104.f k own) (decide (r ≥ 0)) := by
          have hr' : Ev (fun k => slices_IndexFunc_string_string_at104.f k own) r := hr
          exact Ev.bnd hr' (Ev.ret _)
        have hc2 : Ev (fun k => slices_ContainsFunc_impl_Way_impl_Way_at105.f k ways) (decide (q ≥ 0)) := by
          have hr' : Ev (fun k => slices_IndexFunc_impl_Way_impl_Way_at105.f k ways) q := hq
          exact Ev.bnd hr' (Ev.ret _)
        rw [hd] at hc
        rw [hd2] at hc2
        rw [e1, e2, e3]
        refine Ev.bnd hc ?_
        by_cases h4 : own.all ownL = true
        · refine Ev.neg (by rw [h4]; simp) (Ev.bnd hc2 (Ev.eq (Ev.ret _) ?_))
          rw [h4]
          simp
        · rw [Bool.not_eq_true] at h4
          refine Ev.pos (by rw [h4]; rfl) (Ev.eq (Ev.ret _) ?_)
          rw [h4]
          simp
      · refine Ev.neg h3 (Ev.eq (Ev.ret _) ?_)
        rw [show decide (ways.length ≤ 4) = false by rw [decide_eq_false_iff_not]; omega, Bool.and_false]
    · refine Ev.neg h2 (Ev.eq (Ev.ret _) ?_)
      rw [show decide (own.length ≤ 3) = false by rw [decide_eq_false_iff_not]; omega, Bool.and_false, Bool.false_and]
  · refine Ev.neg h1 (Ev.eq (Ev.ret _) ?_)
    rw [Bool.not_eq_true] at h1
    have e1 : ownL n = false := h1
    rw [e1, Bool.and_false, Bool.false_and, Bool.false_and]
end Go.Proofs.YthkibaldmjfmmaaDoor.Q
namespace Go.Proofs.YthkibaldmjfmmaaDoor.Q
open Go.RowKit Go.Proofs.YthkibaldmjfmmaaDoorW.PrintWords Go.Proofs.YthkibaldmjfmmaaDoorW.PrintLast Go.Proofs.YthkibaldmjfmmaaDoorW.PrintMore
set_option linter.unusedVariables false
def domIn (a b : ByteArray) : Bool := domL (LL a) && domL (LL b) && endsL (LL a) (LL b)
theorem implDomainIn_ev (a b : ByteArray) (ha : a.size ≤ 4294967280) (hb : b.size ≤ 4294967280) : Ev (fun k => impl_DomainIn.f k a b) (domIn a b) := by
  unfold impl_DomainIn.f domIn
  refine Ev.bnd (implDomainOk_ev a ha) ?_
  by_cases h : domL (LL a) = true
  · refine Ev.pos h (Ev.bnd (implDomainOk_ev b hb) ?_)
    by_cases h' : domL (LL b) = true
    · refine Ev.pos h' ?_
      rw [h, h', Bool.true_and, Bool.true_and, endsL_suffix]
      by_cases e : a = b
      · refine Ev.pos (toList_eq.2 e) (Ev.eq (Ev.ret _) ?_)
        simp [e]
      · have hz : ((⟨#[46]⟩ : ByteArray) ++ b).size = 1 + b.size := by rw [size_append]; rfl
        have hl : LL ((⟨#[46]⟩ : ByteArray) ++ b) = 46 :: LL b := by rw [LL_append]; rfl
        refine Ev.neg (fun q => e (toList_eq.1 q)) (Ev.pos (by omega) (Ev.bnd (Ev.k (hasSuffix_f a _ (by omega) (by omega))) (Ev.eq (Ev.ret _) ?_)))
        rw [hz, hl, show decide (a = b) = false by rw [decide_eq_false_iff_not]; exact e, Bool.false_or]
    · refine Ev.neg h' (Ev.eq (Ev.ret _) ?_)
      rw [Bool.not_eq_true] at h'
      rw [h', Bool.and_false, Bool.false_and]
  · refine Ev.neg h (Ev.eq (Ev.ret _) ?_)
    rw [Bool.not_eq_true] at h
    rw [h, Bool.false_and, Bool.false_and]
end Go.Proofs.YthkibaldmjfmmaaDoor.Q
namespace Go.Proofs.YthkibaldmjfmmaaDoor.Q
open Go.RowKit Go.Proofs.YthkibaldmjfmmaaDoorW.PrintWords Go.Proofs.YthkibaldmjfmmaaDoorW.PrintLast Go.Proofs.YthkibaldmjfmmaaDoorW.PrintMore
set_option linter.unusedVariables false
set_option linter.unusedSimpArgs false
def ownHas (own : List ByteArray) (d : ByteArray) : Bool := own.any (fun s => decide (s = d))
theorem l3Own_loop (n : ByteArray) (own : List ByteArray) (ways : List IW) (u d : ByteArray) (ho : own.length ≤ 1099511627776) : ∀ m i : Nat, i + m = own.length → Ev (fun k => spec_l3Own.l0 k (i : Int) n own ways u d) ((own.drop i).any (fun s => decide (s = d))) := by
  intro m
  induction m with
  | zero =>
    intro i hi
    rw [List.drop_of_length_le (by omega)]
    refine Ev.step (fun k => by rw [spec_l3Own.l0]) ?_
    exact Ev.neg (by omega) (Ev.ret _)
  | succ m ih =>
    intro i hi
    rw [drop_rd own i (by omega), List.any_cons]
    refine Ev.step (fun k => by rw [spec_l3Own.l0]) ?_
    refine (Ev.pos (by omega) (Ev.pos (by omega) ?_))
    rw [wsucc (by omega)]
    by_cases h : rdOf ByteArray.empty own (i : Int) = d
    · exact Ev.pos (toList_eq.2 h) (Ev.eq (Ev.ret _) (by rw [decide_eq_true h, Bool.true_or]))
    · exact Ev.neg (fun e => h (toList_eq.1 e)) (Ev.eq (ih (i + 1) (by omega)) (by rw [decide_eq_false h, Bool.false_or]))
theorem l3Own_ev (n : ByteArray) (own : List ByteArray) (ways : List IW) (u d : ByteArray) (ho : own.length ≤ 1099511627776) : Ev (fun k => spec_l3Own.f k n own ways u d) (ownHas own d) := by
  have := l3Own_loop n own ways u d ho own.length 0 (by omega)
  rw [List.drop_zero] at this
  exact this
theorem index_loop (own : List ByteArray) (d : ByteArray) (ho : own.length ≤ 1099511627776) : ∀ m i : Nat, i + m = own.length → ∃ r, Ev (fun k => slices_Index_string_string.l0 k own d (own.length : Int) (i : Int)) r ∧ decide (r ≥ 0) = (own.drop i).any (fun s => decide (s = d)) := by
  intro m
  induction m with
  | zero =>
    intro i hi
    refine ⟨-1, Ev.step (fun k => by rw [slices_Index_string_string.l0]) (Ev.neg (by omega) (Ev.ret _)), ?_⟩
    rw [List.drop_of_length_le (by omega)]
    rfl
  | succ m ih =>
    intro i hi
    rw [drop_rd own i (by omega), List.any_cons]
    by_cases h : rdOf ByteArray.empty own (i : Int) = d
    · refine ⟨(i : Int), Ev.step (fun k => by rw [slices_Index_string_string.l0]) (Ev.pos (by omega) (Ev.pos (by omega) (Ev.pos (by omega) (Ev.pos (toList_eq.2 h.symm) (Ev.ret _))))), ?_⟩
      rw [decide_eq_true h, Bool.true_or]
      exact decide_eq_true (by omega)
    · obtain ⟨r, hr, hd⟩ := ih (i + 1) (by omega)
      refine ⟨r, Ev.step (fun k => by rw [slices_Index_string_string.l0]) (Ev.pos (by omega) (Ev.pos (by omega) (Ev.pos (by omega) (Ev.neg (fun e => h (toList_eq.1 e).symm) ?_)))), ?_⟩
      · rw [wsucc (by omega)]
        exact hr
      · rw [decide_eq_false h, Bool.false_or]
        exact hd
theorem local_ev (n : ByteArray) (own : List ByteArray) (ways : List IW) (d : ByteArray) (ho : own.length ≤ 1099511627776) : Ev (fun k => impl_Conf_local.f k n own ways d) (ownHas own d) := by
  obtain ⟨r, hr, hd⟩ := index_loop own d ho own.length 0 (by omega)
  rw [List.drop_zero] at hd
  have h1 : Ev (fun k => slices_Index_string_string.f k own d) r := hr
  have h2 : Ev (fun k => slices_Contains_string_string.f k own d) (decide (r ≥ 0)) := Ev.bnd h1 (Ev.ret _)
  unfold impl_Conf_local.f ownHas
  rw [← hd]
  exact Ev.bnd h2 (Ev.ret _)
def wayFold (d : ByteArray) : List IW → ByteArray → ByteArray → ByteArray
  | [], _, t => t
  | w :: ws, e, t => if endsL (LL d) (LL w.f0) = true ∧ w.f0.size > e.size then wayFold d ws w.f0 w.f1 else wayFold d ws e t
theorem l3Way_loop (n : ByteArray) (own : List ByteArray) (ways : List IW) (d : ByteArray) (hd : d.size ≤ 1099511627776) (hw : ways.length ≤ 1099511627776) (hs : ∀ s ∈ ways, s.f0.size ≤ 1099511627776) : ∀ m i : Nat, i + m = ways.length → ∀ e t : ByteArray,
    Ev (fun k => spec_l3Way.l0 k d e t (i : Int) n own ways) (wayFold d (ways.drop i) e t) := by
  intro m
  induction m with
  | zero =>
    intro i hi e t
    rw [List.drop_of_length_le (by omega)]
    refine Ev.step (fun k => by rw [spec_l3Way.l0]) ?_
    exact Ev.neg (by omega) (Ev.ret _)
  | succ m ih =>
    intro i hi e t
    have hil : i < ways.length := by omega
    have hz := hs ways[i] (List.getElem_mem hil)
    rw [List.drop_eq_getElem_cons hil, wayFold]
    refine Ev.step (fun k => by rw [spec_l3Way.l0]) ?_
    refine (Ev.pos (by omega) (Ev.pos (by omega) ?_))
    rw [rdIW ways i hil, wsucc (by omega)]
    refine Ev.bnd (Ev.k (l1Ends_f d _ hd hz)) ?_
    by_cases h1 : endsL (LL d) (LL ways[i].f0) = true
    · by_cases h2 : (ways[i].f0.size : Int) > (e.size : Int)
      · exact Ev.eq (Ev.pos h1 (Ev.pos h2 (ih (i + 1) (by omega) _ _))) (if_pos ⟨h1, by omega⟩).symm
      · exact Ev.eq (Ev.pos h1 (Ev.neg h2 (ih (i + 1) (by omega) _ _))) (if_neg (fun q => h2 (by omega))).symm
    · exact Ev.eq (Ev.neg h1 (ih (i + 1) (by omega) _ _)) (if_neg (fun q => h1 q.1)).symm
theorem way_loop (ways : List IW) (d : ByteArray) (hd : d.size ≤ 4294967280) (hw : ways.length ≤ 1099511627776) (hs : ∀ s ∈ ways, s.f0.size ≤ 4294967280) (hok : ways.all wayL = true) (hdo : domL (LL d) = true) : ∀ m i : Nat, i + m = ways.length → ∀ e t : ByteArray,
    Ev (fun k => impl_Conf_way.l0 k d ways (ways.length : Int) (i : Int) e t) (wayFold d (ways.drop i) e t) := by
  intro m
  induction m with
  | zero =>
    intro i hi e t
    rw [List.drop_of_length_le (by omega)]
    refine Ev.step (fun k => by rw [impl_Conf_way.l0]) ?_
    exact Ev.neg (by omega) (Ev.ret _)
  | succ m ih =>
    intro i hi e t
    have hil : i < ways.length := by omega
    have hz := hs ways[i] (List.getElem_mem hil)
    have hwl : domL (LL ways[i].f0) = true := by
      have := List.all_eq_true.1 hok ways[i] (List.getElem_mem hil)
      unfold wayL at this
      rw [Bool.and_eq_true] at this
      exact this.1
    have hin : domIn d ways[i].f0 = endsL (LL d) (LL ways[i].f0) := by unfold domIn; rw [hdo, hwl]; rfl
    have he := implDomainIn_ev d ways[i].f0 hd hz
    rw [hin] at he
    rw [List.drop_eq_getElem_cons hil, wayFold]
    refine Ev.step (fun k => by rw [impl_Conf_way.l0]) ?_
    refine (Ev.pos (by omega) (Ev.pos (by omega) (Ev.pos (by omega) ?_)))
    rw [rdIW ways i hil, wsucc (by omega)]
    refine Ev.bnd he ?_
    by_cases h1 : endsL (LL d) (LL ways[i].f0) = true
    · by_cases h2 : (ways[i].f0.size : Int) > (e.size : Int)
      · exact Ev.eq (Ev.pos h1 (Ev.pos h2 (ih (i + 1) (by omega) _ _))) (if_pos ⟨h1, by omega⟩).symm
      · exact Ev.eq (Ev.pos h1 (Ev.neg h2 (ih (i + 1) (by omega) _ _))) (if_neg (fun q => h2 (by omega))).symm
    · exact Ev.eq (Ev.neg h1 (ih (i + 1) (by omega) _ _)) (if_neg (fun q => h1 q.1)).symm
def wayL2 (own : List ByteArray) (ways : List IW) (d : ByteArray) : ByteArray := if ownHas own d = true then ⟨#[]⟩ else wayFold d ways ⟨#[]⟩ ⟨#[]⟩
theorem way_ev (n : ByteArray) (own : List ByteArray) (ways : List IW) (d : ByteArray) (hd : d.size ≤ 4294967280) (ho : own.length ≤ 1099511627776) (hw : ways.length ≤ 1099511627776) (hs : ∀ s ∈ ways, s.f0.size ≤ 4294967280) (hok : ways.all wayL = true) (hdo : domL (LL d) = true) :
    Ev (fun k => impl_Conf_way.f k n own ways d) (wayL2 own ways d) := by
  unfold impl_Conf_way.f wayL2
  refine Ev.bnd (local_ev n own ways d ho) ?_
  by_cases h : ownHas own d = true
  · exact Ev.eq (Ev.pos h (Ev.ret _)) (if_pos h).symm
  · have := way_loop ways d hd hw hs hok hdo ways.length 0 (by omega) ⟨#[]⟩ ⟨#[]⟩
    rw [List.drop_zero] at this
    exact Ev.eq (Ev.neg h this) (if_neg h).symm
theorem l3Way_ev (n : ByteArray) (own : List ByteArray) (ways : List IW) (d : ByteArray) (hd : d.size ≤ 1099511627776) (hw : ways.length ≤ 1099511627776) (hs : ∀ s ∈ ways, s.f0.size ≤ 1099511627776) : Ev (fun k => spec_l3Way.f k n own ways d) (wayFold d ways ⟨#[]⟩ ⟨#[]⟩) := by
  have := l3Way_loop n own ways d hd hw hs ways.length 0 (by omega) ⟨#[]⟩ ⟨#[]⟩
  rw [List.drop_zero] at this
  exact this
theorem confL_ways {n : ByteArray} {own : List ByteArray} {ways : List IW} (h : confL n own ways = true) : ways.all wayL = true := by
  unfold confL at h
  simp only [Bool.and_eq_true] at h
  exact h.1.1.1.2
end Go.Proofs.YthkibaldmjfmmaaDoor.Q
namespace Go.Proofs.YthkibaldmjfmmaaDoor.Q
open Go.RowKit Go.Proofs.YthkibaldmjfmmaaDoorW.PrintWords Go.Proofs.YthkibaldmjfmmaaDoorW.PrintLast Go.Proofs.YthkibaldmjfmmaaDoorW.PrintMore
set_option linter.unusedVariables false
set_option linter.unusedSimpArgs false
def addrL (u d : ByteArray) : Bool := wordL (LL u) && domL (LL d)
theorem l1AddrOk_ev (u d : ByteArray) (hu : u.size ≤ 1099511627776) (hd : d.size ≤ 1099511627776) : Ev (fun k => spec_l1AddrOk.f k u d) (addrL u d) := by
  unfold spec_l1AddrOk.f addrL
  refine Ev.bnd (l1Word_ev u (by omega)) ?_
  by_cases h : wordL (LL u) = true
  · refine Ev.pos h (Ev.bnd (l1Domain_ev d hd) (Ev.eq (Ev.ret _) ?_))
    rw [h, Bool.true_and]
  · refine Ev.neg h (Ev.eq (Ev.ret _) ?_)
    rw [Bool.not_eq_true] at h
    rw [h, Bool.false_and]
theorem implAddrOk_ev (u d : ByteArray) (hu : u.size ≤ 4294967280) (hd : d.size ≤ 4294967280) : Ev (fun k => impl_AddrOk.f k u d) (addrL u d) := by
  unfold impl_AddrOk.f addrL
  refine Ev.bnd (Ev.k (isLabel_f u (by omega))) ?_
  by_cases h : wordL (LL u) = true
  · refine Ev.pos h (Ev.bnd (implDomainOk_ev d hd) (Ev.eq (Ev.ret _) ?_))
    rw [h, Bool.true_and]
  · refine Ev.neg h (Ev.eq (Ev.ret _) ?_)
    rw [Bool.not_eq_true] at h
    rw [h, Bool.false_and]
theorem toList_nil (s : ByteArray) : (s.toList == ([] : List UInt8)) = decide (s = ⟨#[]⟩) := by
  rw [Bool.eq_iff_iff, beq_iff_eq, decide_eq_true_eq, toList_BB]
end Go.Proofs.YthkibaldmjfmmaaDoor.Q
namespace Go.Proofs.YthkibaldmjfmmaaDoor.Q
open Go.RowKit Go.Proofs.YthkibaldmjfmmaaDoorW.PrintWords Go.Proofs.YthkibaldmjfmmaaDoorW.PrintLast Go.Proofs.YthkibaldmjfmmaaDoorW.PrintMore
set_option linter.unusedVariables false
def ConfB (n : ByteArray) (own : List ByteArray) (ways : List IW) : Prop := n.size ≤ 1048576 ∧ own.length ≤ 1048576 ∧ (∀ s ∈ own, s.size ≤ 1048576) ∧ ways.length ≤ 1048576 ∧ ∀ w ∈ ways, w.f0.size ≤ 1048576 ∧ w.f1.size ≤ 1048576
theorem ConfB.of {a0 : ByteArray} {l1 : List ByteArray} {l2 : List LW} (h : ConfSmall a0 l1 l2) : ConfB a0 l1 (l2.map toIW) := by
  obtain ⟨h0, ⟨h1, h2⟩, h3, h4⟩ := h
  refine ⟨h0, h1, h2, by rw [List.length_map]; exact h3, fun s hs => ?_⟩
  obtain ⟨u, hu, rfl⟩ := List.mem_map.1 hs
  exact h4 u hu
theorem ConfB.spec {n : ByteArray} {own : List ByteArray} {ways : List IW} (h : ConfB n own ways) : Ev (fun k => spec_l3ConfOk.f k n own ways) (confL n own ways) := by
  obtain ⟨h0, h1, h2, h3, h4⟩ := h
  exact l3ConfOk_ev _ _ _ (by omega) (by omega) (fun s hs => by have := h2 s hs; omega) (by omega) (fun s hs => by have := h4 s hs; omega)
theorem ConfB.impl {n : ByteArray} {own : List ByteArray} {ways : List IW} (h : ConfB n own ways) : Ev (fun k => impl_ConfOk.f k n own ways) (confL n own ways) := by
  obtain ⟨h0, h1, h2, h3, h4⟩ := h
  exact implConfOk_ev _ _ _ (by omega) (by omega) (fun s hs => by have := h2 s hs; omega) (by omega) (fun s hs => by have := h4 s hs; omega)
def takesL (own : List ByteArray) (ways : List IW) (d : ByteArray) : Bool := ownHas own d || !decide (wayFold d ways ⟨#[]⟩ ⟨#[]⟩ = ⟨#[]⟩)
def confTakes (n : ByteArray) (own : List ByteArray) (ways : List IW) (u d : ByteArray) : Bool := confL n own ways && addrL u d && takesL own ways d
theorem addrL_dom {u d : ByteArray} (h : addrL u d = true) : domL (LL d) = true := by
  unfold addrL at h
  rw [Bool.and_eq_true] at h
  exact h.2
theorem ne_nilT (t : ByteArray) : (t.toList != ([] : List UInt8)) = !decide (t = ⟨#[]⟩) := by rw [bne, toList_nil]
theorem specConfTakes_ev {n : ByteArray} {own : List ByteArray} {iw : List IW} (h : ConfB n own iw) (u d : ByteArray) (hu : u.size ≤ 1048576) (hd : d.size ≤ 1048576) : Ev (fun k => spec_ConfTakes.f k n own iw u d) (confTakes n own iw u d) := by
  have hs := h.spec
  obtain ⟨h0, h1, h2, h3, h4⟩ := h
  unfold spec_ConfTakes.f confTakes
  refine Ev.bnd hs ?_
  by_cases hc : confL n own iw = true
  · refine Ev.pos hc (Ev.bnd (l1AddrOk_ev u d (by omega) (by omega)) ?_)
    rw [hc, Bool.true_and]
    by_cases ha : addrL u d = true
    · refine Ev.pos ha ?_
      rw [ha, Bool.true_and]
      refine Ev.bnd ?_ (Ev.ret _)
      unfold spec_l3Takes.f takesL
      refine Ev.bnd (l3Own_ev n own iw u d (by omega)) ?_
      by_cases ho : ownHas own d = true
      · exact Ev.eq (Ev.pos ho (Ev.ret _)) (by rw [ho, Bool.true_or])
      · refine Ev.eq (Ev.neg ho (Ev.bnd (l3Way_ev n own iw d (by omega) (by omega) (fun s hs => by have := h4 s hs; omega)) (Ev.ret _))) ?_
        rw [Bool.not_eq_true] at ho
        rw [ho, Bool.false_or, ne_nilT]
    · refine Ev.eq (Ev.neg ha (Ev.ret _)) ?_
      rw [Bool.not_eq_true] at ha
      rw [ha, Bool.false_and]
  · refine Ev.eq (Ev.neg hc (Ev.ret _)) ?_
    rw [Bool.not_eq_true] at hc
    rw [hc, Bool.false_and, Bool.false_and]
theorem implConfTakes_ev {n : ByteArray} {own : List ByteArray} {iw : List IW} (h : ConfB n own iw) (u d : ByteArray) (hu : u.size ≤ 1048576) (hd : d.size ≤ 1048576) : Ev (fun k => impl_ConfTakes.f k n own iw u d) (confTakes n own iw u d) := by
  have hi := h.impl
  obtain ⟨h0, h1, h2, h3, h4⟩ := h
  unfold impl_ConfTakes.f confTakes
  refine Ev.bnd hi ?_
  by_cases hc : confL n own iw = true
  · refine Ev.pos hc (Ev.bnd (implAddrOk_ev u d (by omega) (by omega)) ?_)
    rw [hc, Bool.true_and]
    by_cases ha : addrL u d = true
    · refine Ev.pos ha ?_
      rw [ha, Bool.true_and]
      refine Ev.bnd ?_ (Ev.ret _)
      unfold impl_Conf_takes.f takesL
      refine Ev.bnd (local_ev n own iw d (by omega)) ?_
      by_cases ho : ownHas own d = true
      · exact Ev.eq (Ev.pos ho (Ev.ret _)) (by rw [ho, Bool.true_or])
      · have hway := way_ev n own iw d (by omega) (by omega) (by omega) (fun s hs => by have := h4 s hs; omega) (confL_ways hc) (addrL_dom ha)
        unfold wayL2 at hway
        rw [if_neg ho] at hway
        refine Ev.eq (Ev.neg ho (Ev.bnd hway (Ev.ret _))) ?_
        rw [Bool.not_eq_true] at ho
        rw [ho, Bool.false_or, ne_nilT]
    · refine Ev.eq (Ev.neg ha (Ev.ret _)) ?_
      rw [Bool.not_eq_true] at ha
      rw [ha, Bool.false_and]
  · refine Ev.eq (Ev.neg hc (Ev.ret _)) ?_
    rw [Bool.not_eq_true] at hc
    rw [hc, Bool.false_and, Bool.false_and]
end Go.Proofs.YthkibaldmjfmmaaDoor.Q
namespace Go.Proofs.YthkibaldmjfmmaaDoor.Q
open Go.RowKit Go.Proofs.YthkibaldmjfmmaaDoorW.PrintWords Go.Proofs.YthkibaldmjfmmaaDoorW.PrintLast Go.Proofs.YthkibaldmjfmmaaDoorW.PrintMore
theorem szAddr_f (x y : ByteArray) (hx : x.size ≤ 9223372036854775807) (hy : y.size ≤ 9223372036854775807) (a : Int) (h0 : 0 ≤ a) (h1 : a ≤ 1048576) :
    ∃ r, laws_szAddr.f x y a = some r ∧ r ≤ a ∧ (0 ≤ r → (x.size : Int) ≤ a ∧ (y.size : Int) ≤ a) := by
  unfold laws_szAddr.f
  have hw : wrap64 (a - (x.size : Int)) = a - (x.size : Int) := w64 (by omega) (by omega)
  rw [hw]
  by_cases h : a - (x.size : Int) < 0
  · exact ⟨-1, if_pos h, by omega, by omega⟩
  · have hw2 : wrap64 (a - (x.size : Int) - (y.size : Int)) = a - (x.size : Int) - (y.size : Int) := w64 (by omega) (by omega)
    rw [if_neg h, hw2]
    by_cases h2 : a - (x.size : Int) - (y.size : Int) < 0
    · exact ⟨-1, if_pos h2, by omega, by omega⟩
    · exact ⟨_, if_neg h2, by omega, by omega⟩
end Go.Proofs.YthkibaldmjfmmaaDoor.Q
namespace Go.Proofs.YthkibaldmjfmmaaDoor.Q
open Go.RowKit Go.Proofs.YthkibaldmjfmmaaDoorW.PrintWords Go.Proofs.YthkibaldmjfmmaaDoorW.PrintLast Go.Proofs.YthkibaldmjfmmaaDoorW.PrintMore
theorem fnExactConfTakes_pure : ∀ (a0_0 : ByteArray) (l0_1 : List ByteArray) (l0_2 : List LW) (a1_0 : ByteArray) (a1_1 : ByteArray), a0_0.size ≤ maxLen → (l0_1.length ≤ maxLen ∧ ∀ z ∈ l0_1, z.size ≤ maxLen) → (l0_2.length ≤ maxLen ∧ ∀ z ∈ l0_2, (z.f0.size ≤ maxLen ∧ z.f1.size ≤ maxLen)) → a1_0.size ≤ maxLen → a1_1.size ≤ maxLen → ∃ k, laws_FnExactConfTakes.f k a0_0 l0_1 l0_2 a1_0 a1_1 = some true := by
  intro n own ways u d h0 h1 h2 h3 h4
  unfold maxLen at h0 h1 h2 h3 h4
  refine Ev.ex ?_
  unfold laws_FnExactConfTakes.f
  obtain ⟨r, hr, hle, hall⟩ := szConf_ev n own ways h0 h1 h2 1048576 (by omega) (by omega)
  refine Ev.bnd hr ?_
  by_cases h : r < 0
  · exact Ev.pos h (Ev.ret _)
  · obtain ⟨q, hq, _, hall2⟩ := szAddr_f u d (by omega) (by omega) r (by omega) (by omega)
    refine Ev.neg h (Ev.bnd (Ev.k hq) ?_)
    by_cases h' : q < 0
    · exact Ev.pos h' (Ev.ret _)
    · have hud := hall2 (by omega)
      have hsm := hall (by omega)
      have hto := toConf_ev n own ways hsm
      have hB := ConfB.of hsm
      obtain ⟨s0, s1, s2, s3⟩ := hsm
      have hl : (ways.map toIW).length ≤ 1048576 := by rw [List.length_map]; exact s2
      generalize ways.map toIW = iw at *
      exact Ev.neg h' (Ev.bnd hto (Ev.bnd (Ev.ret (u, d)) (Ev.bnd (specConfTakes_ev hB u d (by omega) (by omega)) (Ev.bnd hto (Ev.bnd (Ev.ret (u, d)) (Ev.bnd (implConfTakes_ev hB u d (by omega) (by omega)) (Ev.neg (by simp) (Ev.bnd hto (Ev.bnd (eqConf_refl n own iw (by omega) (by omega)) (Ev.pos rfl (Ev.ret _)))))))))))
end Go.Proofs.YthkibaldmjfmmaaDoor.Q
