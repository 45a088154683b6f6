/- Of texts of ours what this claim needs. -/
import Derived.Test.YthkibaldmjfmmaaDoorZzFnExactCliOkWQ0
import Derived.Lib.Index
import Derived.Lib.IndexMore
import Derived.Lib.Strings
import Derived.Test.YthkibaldmjfmmaaDoorZzFnExactCliOkWHSplit
import Derived.Lib.SplitLaws
import Derived.Lib.IndexLaws
import Derived.Test.YthkibaldmjfmmaaDoorZzFnExactCliOkWQ5
import Derived.Test.YthkibaldmjfmmaaDoorZzFnExactCliOkWQ3
import Derived.Test.YthkibaldmjfmmaaDoorZzFnExactCliOkWQ4
import Derived.Test.YthkibaldmjfmmaaDoorZzFnExactCliOkWQ8
import Derived.Test.YthkibaldmjfmmaaDoorZzFnExactCliOkWQ12
import Derived.Test.YthkibaldmjfmmaaDoorZzFnExactCliOkWQ6
import Derived.Test.YthkibaldmjfmmaaDoorZzFnExactCliOkWQ9
import Derived.Test.YthkibaldmjfmmaaDoorZzFnExactCliOkWQ7
import Derived.Test.YthkibaldmjfmmaaDoorZzFnExactCliOkWHDist
import Derived.Test.YthkibaldmjfmmaaDoorZzFnExactCliOkWQ10
import Derived.Test.YthkibaldmjfmmaaDoorZzFnExactCliOkWQ2
import Derived.Test.YthkibaldmjfmmaaDoorZzFnExactCliOkWQ32
import Derived.Test.YthkibaldmjfmmaaDoorZzFnExactCliOkWQ34
import Derived.Test.YthkibaldmjfmmaaDoorZzFnExactCliOkWQ36
import Derived.Test.YthkibaldmjfmmaaDoorZzFnExactCliOkWQ31
import Derived.Test.YthkibaldmjfmmaaDoorZzFnExactCliOkWQ35
namespace Go.Proofs.YthkibaldmjfmmaaDoor.Q
open Go.RowKit Go.Proofs.YthkibaldmjfmmaaDoorW.PrintWords Go.Proofs.YthkibaldmjfmmaaDoorW.PrintLast Go.Proofs.YthkibaldmjfmmaaDoorW.PrintMore
set_option linter.unusedVariables false
set_option linter.unusedSimpArgs false
section rounds
variable {α β : Type} {g g' f : Nat → Option α} {r : α}
theorem Ev.pos {c : Prop} [Decidable c] (h : c) (e : Ev g r) : Ev (fun k => if c then g k else g' k) r := by
  obtain ⟨K, hK⟩ := e
  exact ⟨K, fun k hk => (if_pos h).trans (hK k hk)⟩
theorem Ev.neg {c : Prop} [Decidable c] (h : ¬ c) (e : Ev g' r) : Ev (fun k => if c then g k else g' k) r := by
  obtain ⟨K, hK⟩ := e
  exact ⟨K, fun k hk => (if_neg h).trans (hK k hk)⟩
theorem Ev.ret (r : α) : Ev (fun _ => some r) r := ⟨0, fun _ _ => rfl⟩
theorem Ev.k {x : Option α} (h : x = some r) : Ev (fun _ => x) r := ⟨0, fun _ _ => h⟩
theorem Ev.bnd {h : Nat → Option α} {F : Nat → α → Option β} {a : α} {r : β} (e : Ev h a) (k : Ev (fun n => F n a) r) : Ev (fun n => (h n).bind (F n)) r := Ev.bind e k
theorem Ev.eq {r' : α} (e : Ev g r) (h : r = r') : Ev g r' := h ▸ e
theorem Ev.ex (h : Ev g r) : ∃ k, g k = some r := by
  obtain ⟨K, hK⟩ := h
  exact ⟨K, hK K (Nat.le_refl _)⟩
end rounds
theorem w64 {x : Int} (h0 : -9223372036854775808 ≤ x) (h1 : x ≤ 9223372036854775807) : wrap64 x = x := by unfold wrap64; omega
theorem wsucc {i : Nat} (h : i ≤ 9223372036854775806) : wrap64 ((i : Int) + 1) = ((i + 1 : Nat) : Int) := by rw [w64 (by omega) (by omega)]; omega
abbrev LL (s : ByteArray) : List UInt8 := s.data.toList
abbrev BB (l : List UInt8) : ByteArray := ⟨l.toArray⟩
theorem BB_LL (s : ByteArray) : BB (LL s) = s := by cases s; simp
theorem LL_BB (l : List UInt8) : LL (BB l) = l := by simp
theorem LL_inj {a b : ByteArray} (h : LL a = LL b) : a = b := by rw [← BB_LL a, ← BB_LL b, h]
theorem toList_LL (s : ByteArray) : s.toList = LL s := Lib.toList_data s
theorem toList_eq {a b : ByteArray} : a.toList = b.toList ↔ a = b := by
  rw [toList_LL, toList_LL]
  exact ⟨LL_inj, fun h => by rw [h]⟩
theorem toList_beq (a b : ByteArray) : (a.toList == b.toList) = decide (a = b) := by
  by_cases h : a = b
  · subst h; simp
  · rw [decide_eq_false h, beq_eq_false_iff_ne]
    exact fun e => h (toList_eq.1 e)
theorem toList_BB {a : ByteArray} {l : List UInt8} : a.toList = l ↔ a = BB l := by
  rw [toList_LL]
  constructor
  · intro h; rw [← BB_LL a, h]
  · intro h; rw [h, LL_BB]
theorem size_LL (s : ByteArray) : s.size = (LL s).length := Lib.size_eq s
theorem size_BB (l : List UInt8) : (BB l).size = l.length := by rw [size_LL, LL_BB]
theorem LL_extract (s : ByteArray) (a b : Nat) : LL (s.extract a b) = ((LL s).drop a).take (b - a) := Lib.extract_data s a b
theorem extract_BB (s : ByteArray) (a b : Nat) : s.extract a b = BB (((LL s).drop a).take (b - a)) := LL_inj (by rw [LL_extract, LL_BB])
theorem bt_get (s : ByteArray) (i : Nat) (h : i < s.size) : ∃ c, (LL s)[i]? = some c ∧ bt s (i : Int) = (c.toNat : Int) := by
  have hl : i < (LL s).length := by rw [← size_LL]; exact h
  refine ⟨(LL s)[i], List.getElem?_eq_getElem hl, ?_⟩
  unfold bt
  simp only [Int.toNat_natCast]
  rw [dif_pos h]
  rfl
theorem drop_bt (s : ByteArray) (i : Nat) (h : i < s.size) : ∃ c, (LL s).drop i = c :: (LL s).drop (i + 1) ∧ bt s (i : Int) = (c.toNat : Int) := by
  obtain ⟨c, hc, hb⟩ := bt_get s i h
  have hl : i < (LL s).length := by rw [← size_LL]; exact h
  refine ⟨c, ?_, hb⟩
  rw [List.drop_eq_getElem_cons hl]
  rw [List.getElem?_eq_getElem hl] at hc
  rw [Option.some.inj hc]
theorem u8_ext {c d : UInt8} (h : c.toNat = d.toNat) : c = d := UInt8.toNat.inj h
theorem rd_get (l : List ByteArray) (i : Nat) (h : i < l.length) : rdOf ByteArray.empty l (i : Int) = l[i] := by
  unfold rdOf
  rw [Int.toNat_natCast, List.getD_eq_getElem?_getD, List.getElem?_eq_getElem h]
  rfl
theorem drop_rd (l : List ByteArray) (i : Nat) (h : i < l.length) : l.drop i = rdOf ByteArray.empty l (i : Int) :: l.drop (i + 1) := by
  rw [rd_get l i h, List.drop_eq_getElem_cons h]
theorem mem_rd (l : List ByteArray) (i : Nat) (h : i < l.length) : rdOf ByteArray.empty l (i : Int) ∈ l := by
  rw [rd_get l i h]
  exact List.getElem_mem h
end Go.Proofs.YthkibaldmjfmmaaDoor.Q
namespace Go.Proofs.YthkibaldmjfmmaaDoor.Q
open Go.RowKit Go.Proofs.YthkibaldmjfmmaaDoorW.PrintWords Go.Proofs.YthkibaldmjfmmaaDoorW.PrintLast Go.Proofs.YthkibaldmjfmmaaDoorW.PrintMore
set_option linter.unusedVariables false
set_option linter.unusedSimpArgs false
theorem occ1_iff (l : List UInt8) (c : UInt8) (j : Nat) : Lib.occAt l [c] j = true ↔ l[j]? = some c := by
  unfold Lib.occAt
  have e0 : l[j]? = (l.drop j)[0]? := by rw [List.getElem?_drop, Nat.add_zero]
  rw [e0]
  cases l.drop j with
  | nil => simp [List.isPrefixOf]
  | cons a t => simp [List.isPrefixOf]; exact eq_comm
abbrev cuts (c : UInt8) (n : Nat) (l : List UInt8) : List (List UInt8) := Lib.splitK [c] 0 n l
theorem cuts_at {c : UInt8} {n i : Nat} {l : List UInt8} (h : Lib.index l [c] = (i : Int)) : cuts c (n + 1) l = l.take i :: cuts c n (l.drop (i + 1)) := by
  unfold cuts
  rw [Lib.splitK, if_neg (fun e => by have := beq_iff_eq.1 e; omega), h]
  rfl
theorem cuts_none {c : UInt8} {n : Nat} {l : List UInt8} (h : Lib.index l [c] = -1) : cuts c n l = [l] := by
  unfold cuts
  cases n with
  | zero => rfl
  | succ n => rw [Lib.splitK, if_pos (beq_iff_eq.2 h)]
theorem index1_cases (l : List UInt8) (c : UInt8) : Lib.index l [c] = -1 ∨ ∃ i : Nat, Lib.index l [c] = i ∧ i < l.length := by
  rcases Lib.index_spec l [c] with ⟨h, _⟩ | ⟨i, h, _⟩
  · exact .inl h
  · have := Lib.index_room l [c] (by omega)
    simp at this
    exact .inr ⟨i, h, by omega⟩
theorem cuts_hit {c : UInt8} {n i : Nat} {l : List UInt8} (hi : l[i]? = some c) (hno : ∀ j, j < i → l[j]? ≠ some c) : cuts c (n + 1) l = l.take i :: cuts c n (l.drop (i + 1)) := by
  have hil := (List.getElem?_eq_some_iff.1 hi).1
  refine cuts_at (Lib.index_first (by omega) ((occ1_iff l c i).2 hi) (fun j hj => ?_))
  rw [← Bool.not_eq_true, occ1_iff]
  exact hno j hj
theorem cuts_miss {c : UInt8} {n : Nat} {l : List UInt8} (hno : ∀ j : Nat, l[j]? ≠ some c) : cuts c n l = [l] := by
  refine cuts_none ?_
  have : Lib.index l [c] = -1 := Lib.index_none (fun j _ => by rw [← Bool.not_eq_true, occ1_iff]; exact hno j)
  exact this
theorem cuts_len (c : UInt8) : ∀ (n : Nat) (l : List UInt8), (cuts c n l).length = min n (Lib.count l [c]) + 1 := by
  intro n
  induction n with
  | zero => intro l; simp [Lib.splitK]
  | succ n ih =>
    intro l
    rcases index1_cases l c with h | ⟨i, h, _⟩
    · rw [cuts_none h, Lib.count_miss h]; simp
    · rw [cuts_at h, List.length_cons, ih, Lib.count_hit (by simp) h]
      simp only [List.length_cons, List.length_nil, Nat.zero_add]
      omega
theorem cuts_more (c : UInt8) : ∀ (n : Nat) (l : List UInt8), Lib.count l [c] ≤ n → cuts c n l = cuts c (Lib.count l [c]) l := by
  intro n
  induction n with
  | zero => intro l h; rw [show Lib.count l [c] = 0 by omega]
  | succ n ih =>
    intro l h
    rcases index1_cases l c with hm | ⟨i, hm, _⟩
    · rw [cuts_none hm, cuts_none hm]
    · have e := Lib.count_hit (s := l) (sub := [c]) (by simp) hm
      simp only [List.length_cons, List.length_nil, Nat.zero_add] at e
      rw [cuts_at hm, e, Nat.add_comm 1, cuts_at hm, ih _ (by omega)]
theorem splitL_eq (s : ByteArray) (c : UInt8) : splitL s ⟨#[c]⟩ = (cuts c (Lib.count (LL s) [c]) (LL s)).map BB := by
  have h := Lib.splitB_data ⟨#[c]⟩ 0 (Lib.countB s ⟨#[c]⟩) s
  have e : (splitL s ⟨#[c]⟩).map LL = cuts c (Lib.count (LL s) [c]) (LL s) := h
  rw [← e, List.map_map]
  conv => lhs; rw [← List.map_id (splitL s ⟨#[c]⟩)]
  exact List.map_congr_left (fun x _ => (BB_LL x).symm)
theorem splitL_len (s : ByteArray) (c : UInt8) : (splitL s ⟨#[c]⟩).length ≤ s.size + 1 := by
  unfold splitL
  have h1 := Lib.splitB_length_le ⟨#[c]⟩ 0 (Lib.countB s ⟨#[c]⟩) s
  have h2 := Lib.countB_le ⟨#[c]⟩ (Nat.le_refl 1) s.size s (Nat.le_refl _)
  omega
theorem l1Cut_loop (s : ByteArray) (c : UInt8) (n : Nat) (hn : n ≤ 1000000) (hm : s.size ≤ 1099511627776) : ∀ d i : Nat, i + d = s.size → ∀ (out : List ByteArray) (a m : Nat), a ≤ i → out.length + m = n → (∀ j, a ≤ j → j < i → (LL s)[j]? ≠ some c) →
    Ev (fun k => spec_l1Cut.l0 k s (c.toNat : Int) (n : Int) out (a : Int) (i : Int)) (out ++ (cuts c m ((LL s).drop a)).map BB) := by
  have hsz := size_LL s
  have hlast : ∀ (out : List ByteArray) (a i : Nat), a ≤ s.size → out.length ≤ 1000000 → Ev (fun k => spec_l1Cut.j1 k s (c.toNat : Int) (n : Int) out (a : Int) (i : Int) false) (out ++ [BB ((LL s).drop a)]) := by
    intro out a i ha ho
    refine Ev.step (fun k => by rw [spec_l1Cut.j1]) ?_
    refine Ev.neg (by simp) (Ev.pos (by omega) (Ev.pos (by omega) (Ev.pos (by omega) (Ev.eq (Ev.ret _) ?_))))
    rw [Int.toNat_natCast, extract_BB, List.take_of_length_le (by rw [List.length_drop]; omega)]
  intro d
  induction d with
  | zero =>
    intro i hi out a m hai hom hno
    refine Ev.step (fun k => by rw [spec_l1Cut.l0]) ?_
    refine Ev.neg (by omega) ?_
    rw [cuts_miss (fun j => ?_)]
    · exact hlast out a i (by omega) (by omega)
    · rw [List.getElem?_drop]
      by_cases hj : a + j < i
      · exact hno _ (by omega) hj
      · rw [List.getElem?_eq_none (by omega)]; simp
  | succ d ih =>
    intro i hi out a m hai hom hno
    refine Ev.step (fun k => by rw [spec_l1Cut.l0]) ?_
    refine Ev.pos (by omega) ?_
    cases m with
    | zero =>
      rw [show (decide ((out.length : Int) < (n : Int))) = false by rw [decide_eq_false_iff_not]; omega]
      exact hlast out a i (by omega) (by omega)
    | succ m =>
      rw [show (decide ((out.length : Int) < (n : Int))) = true by rw [decide_eq_true_eq]; omega]
      refine Ev.step (fun k => by rw [spec_l1Cut.j1]) ?_
      refine Ev.pos rfl (Ev.pos (by omega) (Ev.pos (by omega) ?_))
      obtain ⟨b, hb, hbt⟩ := bt_get s i (by omega)
      rw [hbt, wsucc (by omega)]
      by_cases h : b = c
      · subst h
        refine Ev.pos rfl (Ev.pos (by omega) (Ev.pos (by omega) (Ev.pos (by omega) (Ev.pos (by omega) ?_))))
        have e := cuts_hit (c := b) (n := m) (i := i - a) (l := (LL s).drop a) (by rw [List.getElem?_drop, show a + (i - a) = i by omega]; exact hb) (fun j hj => by rw [List.getElem?_drop]; exact hno _ (by omega) (by omega))
        rw [e, List.drop_drop, show a + (i - a + 1) = i + 1 by omega]
        refine Ev.eq (ih (i + 1) (by omega) _ (i + 1) m (Nat.le_refl _) (by simp; omega) (fun j h1 h2 => by omega)) ?_
        rw [Int.toNat_natCast, Int.toNat_natCast, extract_BB, List.append_assoc]
        rfl
      · refine Ev.neg (fun e => h (u8_ext (by omega))) ?_
        refine ih (i + 1) (by omega) out a (m + 1) (by omega) hom (fun j h1 h2 => ?_)
        by_cases hj : j < i
        · exact hno j h1 hj
        · rw [show j = i by omega, hb]
          simpa using h
theorem l1Cut_ev (s : ByteArray) (c : UInt8) (n : Nat) (hn : n ≤ 1000000) (hm : s.size ≤ 1099511627776) : Ev (fun k => spec_l1Cut.f k s (c.toNat : Int) (n : Int)) ((cuts c n (LL s)).map BB) := by
  have := l1Cut_loop s c n hn hm s.size 0 (by omega) [] 0 n (Nat.le_refl _) (by simp) (fun j _ h => by omega)
  exact this
def wordCh (b : UInt8) : Bool := decide (97 ≤ b.toNat ∧ b.toNat ≤ 122) || decide (48 ≤ b.toNat ∧ b.toNat ≤ 57)
def wordL (l : List UInt8) : Bool := l.all wordCh && decide (1 ≤ l.length ∧ l.length ≤ 8)
theorem l1In_ev (a b c : Int) : spec_l1In.f a b c = some (decide (b ≤ a ∧ a ≤ c)) := by
  unfold spec_l1In.f
  by_cases h : a ≥ b
  · rw [if_pos h]
    congr 1
    rw [decide_eq_decide]
    omega
  · rw [if_neg h]
    congr 1
    symm
    rw [decide_eq_false_iff_not]
    omega
theorem within_ev (a b c : Int) : impl_within.f a b c = some (decide (b ≤ a ∧ a ≤ c)) := l1In_ev a b c
theorem l1Word_loop (s : ByteArray) (hm : s.size ≤ 9223372036854775807) : ∀ d i : Nat, i + d = s.size → Ev (fun k => spec_l1Word.l0 k s (i : Int)) (((LL s).drop i).all wordCh && decide (1 ≤ (LL s).length ∧ (LL s).length ≤ 8)) := by
  have hsz := size_LL s
  intro d
  induction d with
  | zero =>
    intro i hi
    refine Ev.step (fun k => by rw [spec_l1Word.l0]) ?_
    refine Ev.neg (by omega) (Ev.bnd (Ev.k (l1In_ev _ _ _)) (Ev.eq (Ev.ret _) ?_))
    rw [List.drop_of_length_le (by omega), List.all_nil, Bool.true_and, decide_eq_decide]
    omega
  | succ d ih =>
    intro i hi
    obtain ⟨c, hc, hb⟩ := drop_bt s i (by omega)
    have := ih (i + 1) (by omega)
    refine Ev.step (fun k => by rw [spec_l1Word.l0]) ?_
    refine Ev.pos (by omega) (Ev.pos (by omega) ?_)
    rw [hb, hc, List.all_cons, wsucc (by omega)]
    by_cases h : wordCh c = true
    · rw [h, Bool.true_and]
      unfold wordCh at h
      simp only [Bool.or_eq_true, decide_eq_true_eq] at h
      by_cases h1 : (c.toNat : Int) < 97
      · exact Ev.pos h1 (Ev.neg (by omega) (Ev.neg (by omega) this))
      · exact Ev.neg h1 (Ev.neg (by omega) this)
    · rw [Bool.not_eq_true] at h
      rw [h, Bool.false_and, Bool.false_and]
      unfold wordCh at h
      simp only [Bool.or_eq_false_iff, decide_eq_false_iff_not] at h
      by_cases h1 : (c.toNat : Int) < 97
      · refine Ev.pos h1 ?_
        by_cases h2 : (c.toNat : Int) < 48
        · exact Ev.pos h2 (Ev.ret _)
        · exact Ev.neg h2 (Ev.pos (by omega) (Ev.ret _))
      · exact Ev.neg h1 (Ev.pos (by omega) (Ev.neg (by omega) (Ev.pos (by omega) (Ev.ret _))))
theorem l1Word_ev (s : ByteArray) (hm : s.size ≤ 9223372036854775807) : Ev (fun k => spec_l1Word.f k s) (wordL (LL s)) := l1Word_loop s hm s.size 0 (by omega)
theorem dropWhile_nil (p : UInt8 → Bool) (l : List UInt8) : l.dropWhile p = [] ↔ ∀ x ∈ l, p x = true := by
  induction l with
  | nil => simp
  | cons a t ih =>
    rw [List.dropWhile_cons]
    by_cases h : p a = true
    · rw [if_pos h, ih]
      constructor
      · intro e x hx
        rcases List.mem_cons.1 hx with q | hx
        · rw [q]; exact h
        · exact e x hx
      · intro e x hx
        exact e x (List.mem_cons_of_mem _ hx)
    · rw [if_neg h]
      constructor
      · intro e; cases e
      · intro e; exact absurd (e a (List.mem_cons_self ..)) h
theorem trimS_nil (l cs : List UInt8) : Lib.trimS l cs = [] ↔ l.all (cs.contains ·) = true := by
  unfold Lib.trimS Lib.trimLeftS Lib.trimRightS
  rw [dropWhile_nil]
  constructor
  · intro h
    have : l.reverse.dropWhile (cs.contains ·) = [] := by
      cases e : l.reverse.dropWhile (cs.contains ·) with
      | nil => rfl
      | cons y t =>
        have h1 := h y (by rw [e]; simp)
        have h2 := List.head_dropWhile_not (p := (cs.contains ·)) (l := l.reverse) (by rw [e]; simp)
        simp only [e, List.head_cons] at h2
        rw [h1] at h2
        cases h2
    rw [dropWhile_nil] at this
    rw [List.all_eq_true]
    exact fun x hx => this x (List.mem_reverse.2 hx)
  · intro h x hx
    rw [List.all_eq_true] at h
    have : x ∈ l.reverse := (List.dropWhile_sublist _).subset (List.mem_reverse.1 hx)
    exact h x (List.mem_reverse.1 this)
def wordCs : List UInt8 := [97, 98, 99, 100, 101, 102, 103, 104, 105, 106, 107, 108, 109, 110, 111, 112, 113, 114, 115, 116, 117, 118, 119, 120, 121, 122, 48, 49, 50, 51, 52, 53, 54, 55, 56, 57]
theorem wordCs_all : ∀ n : Fin 256, wordCs.contains (UInt8.ofNat n.val) = wordCh (UInt8.ofNat n.val) := by decide +kernel
theorem wordCs_ok (b : UInt8) : wordCs.contains b = wordCh b := by
  have := wordCs_all ⟨b.toNat, b.toNat_lt⟩
  simpa using this
theorem isLabel_f (s : ByteArray) (hm : s.size ≤ 9223372036854775807) : impl_isLabel.f s = some (wordL (LL s)) := by
  have hsz := size_LL s
  unfold impl_isLabel.f wordL
  rw [within_ev]
  simp only [Option.bind_some]
  by_cases h : (1 : Int) ≤ (s.size : Int) ∧ (s.size : Int) ≤ 8
  · rw [if_pos (by simpa using h)]
    have ht : strings_Trim.f s (⟨#[97, 98, 99, 100, 101, 102, 103, 104, 105, 106, 107, 108, 109, 110, 111, 112, 113, 114, 115, 116, 117, 118, 119, 120, 121, 122, 48, 49, 50, 51, 52, 53, 54, 55, 56, 57]⟩ : ByteArray) = some (BB (Lib.trimS (LL s) wordCs)) := by
      unfold strings_Trim.f
      rw [if_pos ⟨hm, by decide, by decide⟩]
      rfl
    rw [ht]
    simp only [Option.bind_some]
    rw [show decide (1 ≤ (LL s).length ∧ (LL s).length ≤ 8) = true by rw [decide_eq_true_eq]; omega, Bool.and_true]
    congr 1
    rw [Bool.eq_iff_iff, beq_iff_eq, toList_BB]
    have e : BB (Lib.trimS (LL s) wordCs) = BB [] ↔ Lib.trimS (LL s) wordCs = [] := ⟨fun e => by have := congrArg LL e; rw [LL_BB, LL_BB] at this; exact this, fun e => by rw [e]⟩
    rw [e, trimS_nil]
    have : (fun x => wordCs.contains x) = wordCh := funext wordCs_ok
    rw [this]
  · rw [if_neg (by simpa using h)]
    rw [show decide (1 ≤ (LL s).length ∧ (LL s).length ≤ 8) = false by rw [decide_eq_false_iff_not]; omega, Bool.and_false]
def domL (l : List UInt8) : Bool := (cuts 46 3 l).all wordL && decide ((cuts 46 3 l).length ≤ 3)
theorem domL_all (l : List UInt8) : domL l = ((cuts 46 (Lib.count l [46]) l).all wordL && decide ((cuts 46 (Lib.count l [46]) l).length ≤ 3)) := by
  unfold domL
  by_cases h : Lib.count l [46] ≤ 3
  · rw [cuts_more 46 3 l h]
  · have e1 := cuts_len 46 3 l
    have e2 := cuts_len 46 (Lib.count l [46]) l
    rw [show decide ((cuts 46 3 l).length ≤ 3) = false by rw [decide_eq_false_iff_not]; omega, show decide ((cuts 46 (Lib.count l [46]) l).length ≤ 3) = false by rw [decide_eq_false_iff_not]; omega, Bool.and_false, Bool.and_false]
theorem all_drop_rd (x : List ByteArray) (i : Nat) (h : i < x.length) (p : ByteArray → Bool) : (x.drop i).all p = (p (rdOf ByteArray.empty x (i : Int)) && (x.drop (i + 1)).all p) := by rw [drop_rd x i h, List.all_cons]
theorem l1Domain_loop (x : List ByteArray) (hx : x.length ≤ 1000000) (hs : ∀ s ∈ x, s.size ≤ 9223372036854775807) : ∀ d i : Nat, i + d = x.length → Ev (fun k => spec_l1Domain.l0 k x (i : Int)) ((x.drop i).all (fun s => wordL (LL s)) && decide (x.length ≤ 3)) := by
  intro d
  induction d with
  | zero =>
    intro i hi
    refine Ev.step (fun k => by rw [spec_l1Domain.l0]) ?_
    refine Ev.neg (by omega) (Ev.eq (Ev.ret _) ?_)
    rw [List.drop_of_length_le (by omega), List.all_nil, Bool.true_and, decide_eq_decide]
    omega
  | succ d ih =>
    intro i hi
    refine Ev.step (fun k => by rw [spec_l1Domain.l0]) ?_
    refine Ev.pos (by omega) (Ev.pos (by omega) (Ev.bnd (l1Word_ev _ (hs _ (mem_rd x i (by omega)))) ?_))
    rw [all_drop_rd x i (by omega), wsucc (by omega)]
    by_cases h : wordL (LL (rdOf ByteArray.empty x (i : Int))) = true
    · refine Ev.pos h (Ev.eq (ih (i + 1) (by omega)) ?_)
      rw [h, Bool.true_and]
    · refine Ev.neg h (Ev.eq (Ev.ret _) ?_)
      rw [Bool.not_eq_true] at h
      rw [h, Bool.false_and, Bool.false_and]
theorem cuts_size (c : UInt8) : ∀ (n : Nat) (l : List UInt8), ∀ p ∈ cuts c n l, p.length ≤ l.length := by
  intro n
  induction n with
  | zero => intro l p hp; rw [List.mem_singleton.1 hp]; exact Nat.le_refl _
  | succ n ih =>
    intro l p hp
    rcases index1_cases l c with h | ⟨i, h, _⟩
    · rw [cuts_none h] at hp
      rw [List.mem_singleton.1 hp]; exact Nat.le_refl _
    · rw [cuts_at h] at hp
      rcases List.mem_cons.1 hp with rfl | hp
      · rw [List.length_take]; omega
      · have := ih _ p hp
        rw [List.length_drop] at this
        omega
theorem l1Domain_ev (s : ByteArray) (hm : s.size ≤ 1099511627776) : Ev (fun k => spec_l1Domain.f k s) (domL (LL s)) := by
  have hsz := size_LL s
  unfold spec_l1Domain.f
  refine Ev.bnd (l1Cut_ev s 46 3 (by omega) hm) ?_
  have hl := cuts_len 46 3 (LL s)
  have := l1Domain_loop ((cuts 46 3 (LL s)).map BB) (by rw [List.length_map]; omega) (fun t ht => by
    obtain ⟨u, hu, rfl⟩ := List.mem_map.1 ht
    have := cuts_size 46 3 (LL s) u hu
    rw [size_BB]
    omega) _ 0 (by simp; rfl)
  refine Ev.eq this ?_
  unfold domL
  rw [List.drop_zero, List.all_map, List.length_map]
  rfl
theorem implDomainOk_loop (x3 x : List ByteArray) (h3 : x3.length ≤ 1099511627777) (hx : x.length ≤ 1099511627777) (hs : ∀ s ∈ x, s.size ≤ 9223372036854775807) : ∀ d i : Nat, i + d = x.length → Ev (fun k => impl_DomainOk.l0 k x3 x (x.length : Int) (i : Int)) ((x.drop i).all (fun s => wordL (LL s)) && decide (x3.length ≤ 3)) := by
  intro d
  induction d with
  | zero =>
    intro i hi
    refine Ev.step (fun k => by rw [impl_DomainOk.l0]) ?_
    refine Ev.neg (by omega) (Ev.eq (Ev.ret _) ?_)
    rw [List.drop_of_length_le (by omega), List.all_nil, Bool.true_and, decide_eq_decide]
    omega
  | succ d ih =>
    intro i hi
    refine Ev.step (fun k => by rw [impl_DomainOk.l0]) ?_
    refine Ev.pos (by omega) (Ev.pos (by omega) (Ev.pos (by omega) (Ev.bnd (Ev.k (isLabel_f _ (hs _ (mem_rd x i (by omega))))) ?_)))
    rw [all_drop_rd x i (by omega), wsucc (by omega)]
    by_cases h : wordL (LL (rdOf ByteArray.empty x (i : Int))) = true
    · refine Ev.pos h (Ev.eq (ih (i + 1) (by omega)) ?_)
      rw [h, Bool.true_and]
    · refine Ev.neg h (Ev.eq (Ev.ret _) ?_)
      rw [Bool.not_eq_true] at h
      rw [h, Bool.false_and, Bool.false_and]
theorem implDomainOk_ev (s : ByteArray) (hm : s.size ≤ 4294967280) : Ev (fun k => impl_DomainOk.f k s) (domL (LL s)) := by
  have hsz := size_LL s
  unfold impl_DomainOk.f
  have hl := splitL_len s 46
  have hf : strings_Split.f s ⟨#[46]⟩ = some (splitL s ⟨#[46]⟩) := by
    unfold strings_Split.f
    rw [if_pos ⟨by omega, by decide, by omega⟩]
  refine Ev.bnd (Ev.k hf) ?_
  have hmem : ∀ t ∈ splitL s ⟨#[46]⟩, t.size ≤ 9223372036854775807 := fun t ht => by
    rw [splitL_eq] at ht
    obtain ⟨u, hu, rfl⟩ := List.mem_map.1 ht
    have := cuts_size 46 _ (LL s) u hu
    rw [size_BB]
    omega
  refine Ev.eq (implDomainOk_loop _ (splitL s ⟨#[46]⟩) (by omega) (by omega) hmem _ 0 (by simp; rfl)) ?_
  rw [domL_all, List.drop_zero, splitL_eq, List.all_map, List.length_map]
  rfl
end Go.Proofs.YthkibaldmjfmmaaDoor.Q
namespace Go.Proofs.YthkibaldmjfmmaaDoor.Q
open Go.RowKit Go.Proofs.YthkibaldmjfmmaaDoorW.PrintWords Go.Proofs.YthkibaldmjfmmaaDoorW.PrintLast Go.Proofs.YthkibaldmjfmmaaDoorW.PrintMore
set_option linter.unusedVariables false
set_option linter.unusedSimpArgs false
theorem eqStringS_loop (a b : List ByteArray) (hl : a.length = b.length) (hm : a.length ≤ 4611686018427387904) : ∀ d i : Nat, i + d = a.length → Ev (fun k => laws_eqStringS.l0 k a b (i : Int)) (decide (a.drop i = b.drop i)) := by
  intro d
  induction d with
  | zero =>
    intro i hi
    refine Ev.step (fun k => by rw [laws_eqStringS.l0]) ?_
    refine Ev.neg (by omega) (Ev.k ?_)
    rw [List.drop_of_length_le (by omega), List.drop_of_length_le (by omega)]
    rfl
  | succ d ih =>
    intro i hi
    refine Ev.step (fun k => by rw [laws_eqStringS.l0]) ?_
    refine Ev.pos (by omega) (Ev.pos (by omega) (Ev.pos (by omega) ?_))
    rw [drop_rd a i (by omega), drop_rd b i (by omega)]
    by_cases h : rdOf ByteArray.empty a (i : Int) = rdOf ByteArray.empty b (i : Int)
    · refine Ev.pos (toList_eq.2 h) ?_
      rw [wsucc (by omega), h]
      exact Ev.eq (ih (i + 1) (by omega)) (by simp)
    · refine Ev.neg (fun e => h (toList_eq.1 e)) (Ev.k ?_)
      simp [h]
theorem eqStringS_ev (a b : List ByteArray) (hm : a.length ≤ 4611686018427387904) : Ev (fun k => laws_eqStringS.f k a b) (decide (a = b)) := by
  unfold laws_eqStringS.f
  by_cases h : a.length = b.length
  · refine Ev.pos (by omega) ?_
    exact Ev.eq (eqStringS_loop a b h hm a.length 0 (by omega)) (by simp)
  · refine Ev.neg (by omega) (Ev.k ?_)
    have : a ≠ b := fun e => h (by rw [e])
    simp [this]
def chOk (c : UInt8) : Bool := decide (32 ≤ c.toNat) && decide (c.toNat ≤ 126)
def lineOk (s : ByteArray) : Bool := (LL s).all chOk && decide (s.size ≤ 40)
def bodyOk (l : List ByteArray) : Bool := l.all lineOk && decide (l.length ≤ 12)
theorem l2LineOk_loop (s : ByteArray) (hm : s.size ≤ 9223372036854775807) : ∀ d i : Nat, i + d = s.size → Ev (fun k => spec_l2LineOk.l0 k s (i : Int)) (((LL s).drop i).all chOk && decide (s.size ≤ 40)) := by
  intro d
  induction d with
  | zero =>
    intro i hi
    refine Ev.step (fun k => by rw [spec_l2LineOk.l0]) ?_
    refine Ev.neg (by omega) (Ev.k ?_)
    rw [List.drop_of_length_le (by rw [← size_LL]; omega)]
    simp only [List.all_nil, Bool.true_and]
    congr 1
    rw [decide_eq_decide]
    omega
  | succ d ih =>
    intro i hi
    obtain ⟨c, hc, hb⟩ := drop_bt s i (by omega)
    refine Ev.step (fun k => by rw [spec_l2LineOk.l0]) ?_
    refine Ev.pos (by omega) (Ev.pos (by omega) ?_)
    rw [hb, hc, List.all_cons]
    by_cases h1 : (c.toNat : Int) < 32
    · refine Ev.pos h1 (Ev.k ?_)
      have : chOk c = false := by unfold chOk; simp; omega
      rw [this]; rfl
    · refine Ev.neg h1 ?_
      by_cases h2 : (c.toNat : Int) > 126
      · refine Ev.pos h2 (Ev.k ?_)
        have : chOk c = false := by unfold chOk; simp; omega
        rw [this]; rfl
      · refine Ev.neg h2 ?_
        have : chOk c = true := by unfold chOk; simp; omega
        rw [this, Bool.true_and, wsucc (by omega)]
        exact ih (i + 1) (by omega)
theorem l2LineOk_ev (s : ByteArray) (hm : s.size ≤ 9223372036854775807) : Ev (fun k => spec_l2LineOk.f k s) (lineOk s) := l2LineOk_loop s hm s.size 0 (by omega)
theorem l2BodyOk_loop (l : List ByteArray) (hm : l.length ≤ 9223372036854775807) (hs : ∀ s ∈ l, s.size ≤ 9223372036854775807) : ∀ d i : Nat, i + d = l.length → Ev (fun k => spec_l2BodyOk.l0 k l (i : Int)) ((l.drop i).all lineOk && decide (l.length ≤ 12)) := by
  intro d
  induction d with
  | zero =>
    intro i hi
    refine Ev.step (fun k => by rw [spec_l2BodyOk.l0]) ?_
    refine Ev.neg (by omega) (Ev.k ?_)
    rw [List.drop_of_length_le (by omega)]
    simp only [List.all_nil, Bool.true_and]
    congr 1
    rw [decide_eq_decide]
    omega
  | succ d ih =>
    intro i hi
    refine Ev.step (fun k => by rw [spec_l2BodyOk.l0]) ?_
    refine Ev.pos (by omega) (Ev.pos (by omega) ?_)
    refine Ev.bnd (l2LineOk_ev _ (hs _ (mem_rd l i (by omega)))) ?_
    rw [drop_rd l i (by omega), List.all_cons]
    by_cases h : lineOk (rdOf ByteArray.empty l (i : Int)) = true
    · refine Ev.pos h ?_
      rw [h, Bool.true_and, wsucc (by omega)]
      exact ih (i + 1) (by omega)
    · refine Ev.neg h (Ev.k ?_)
      rw [Bool.not_eq_true] at h
      rw [h]; rfl
theorem l2BodyOk_ev (l : List ByteArray) (hm : l.length ≤ 9223372036854775807) (hs : ∀ s ∈ l, s.size ≤ 9223372036854775807) : Ev (fun k => spec_l2BodyOk.f k l) (bodyOk l) := l2BodyOk_loop l hm hs l.length 0 (by omega)
theorem isLine_loop (s : ByteArray) (hm : s.size ≤ 9223372036854775807) : ∀ d i : Nat, i + d = s.size → Ev (fun k => impl_isLine.l0 k s (s.size : Int) (i : Int)) (((LL s).drop i).all chOk && decide (s.size ≤ 40)) := by
  intro d
  induction d with
  | zero =>
    intro i hi
    refine Ev.step (fun k => by rw [impl_isLine.l0]) ?_
    refine Ev.neg (by omega) (Ev.k ?_)
    rw [List.drop_of_length_le (by rw [← size_LL]; omega)]
    simp only [List.all_nil, Bool.true_and]
    congr 1
    rw [decide_eq_decide]
    omega
  | succ d ih =>
    intro i hi
    obtain ⟨c, hc, hb⟩ := drop_bt s i (by omega)
    refine Ev.step (fun k => by rw [impl_isLine.l0]) ?_
    refine Ev.pos (by omega) (Ev.pos (by omega) (Ev.pos (by omega) ?_))
    rw [hb, hc, List.all_cons]
    by_cases h1 : (c.toNat : Int) < 32
    · refine Ev.pos h1 (Ev.k ?_)
      have : chOk c = false := by unfold chOk; simp; omega
      rw [this]; rfl
    · refine Ev.neg h1 ?_
      by_cases h2 : (c.toNat : Int) > 126
      · refine Ev.pos h2 (Ev.k ?_)
        have : chOk c = false := by unfold chOk; simp; omega
        rw [this]; rfl
      · refine Ev.neg h2 ?_
        have : chOk c = true := by unfold chOk; simp; omega
        rw [this, Bool.true_and, wsucc (by omega)]
        exact ih (i + 1) (by omega)
theorem isLine_ev (s : ByteArray) (hm : s.size ≤ 9223372036854775807) : Ev (fun k => impl_isLine.f k s) (lineOk s) := isLine_loop s hm s.size 0 (by omega)
theorem indexBody_loop (l : List ByteArray) (hm : l.length ≤ 9223372036854775807) (hs : ∀ s ∈ l, s.size ≤ 9223372036854775807) : ∀ d i : Nat, i + d = l.length →
    ∃ r, Ev (fun k => slices_IndexFunc_string_string_at97.l0 k l (l.length : Int) (i : Int)) r ∧ (decide (r ≥ 0) = !(l.drop i).all lineOk) := by
  intro d
  induction d with
  | zero =>
    intro i hi
    refine ⟨-1, ?_, ?_⟩
    · refine Ev.step (fun k => by rw [slices_IndexFunc_string_string_at97.l0]) ?_
      exact Ev.neg (by omega) (Ev.ret _)
    · rw [List.drop_of_length_le (by omega)]
      rfl
  | succ d ih =>
    intro i hi
    rw [drop_rd l i (by omega), List.all_cons]
    by_cases h : lineOk (rdOf ByteArray.empty l (i : Int)) = true
    · obtain ⟨r, hr, hd⟩ := ih (i + 1) (by omega)
      refine ⟨r, ?_, by rw [h, Bool.true_and]; exact hd⟩
      refine Ev.step (fun k => by rw [slices_IndexFunc_string_string_at97.l0]) ?_
      refine Ev.pos (by omega) (Ev.pos (by omega) (Ev.pos (by omega) ?_))
      refine Ev.bnd (a := false) (by unfold impl_isBody_1.f; exact Ev.bnd (isLine_ev _ (hs _ (mem_rd l i (by omega)))) (Ev.k (by rw [h]; rfl))) ?_
      refine Ev.neg (by simp) ?_
      rw [wsucc (by omega)]
      exact hr
    · rw [Bool.not_eq_true] at h
      refine ⟨(i : Int), ?_, by rw [h]; simp⟩
      refine Ev.step (fun k => by rw [slices_IndexFunc_string_string_at97.l0]) ?_
      refine Ev.pos (by omega) (Ev.pos (by omega) (Ev.pos (by omega) ?_))
      refine Ev.bnd (a := true) (by unfold impl_isBody_1.f; exact Ev.bnd (isLine_ev _ (hs _ (mem_rd l i (by omega)))) (Ev.k (by rw [h]; rfl))) ?_
      exact Ev.pos rfl (Ev.ret _)
theorem isBody_ev (l : List ByteArray) (hm : l.length ≤ 9223372036854775807) (hs : ∀ s ∈ l, s.size ≤ 9223372036854775807) : Ev (fun k => impl_isBody.f k l) (bodyOk l) := by
  unfold impl_isBody.f
  by_cases h : (l.length : Int) ≤ 12
  · refine Ev.pos h ?_
    obtain ⟨r, hr, hd⟩ := indexBody_loop l hm hs l.length 0 (by omega)
    refine Ev.bnd (a := decide (r ≥ 0)) (by unfold slices_ContainsFunc_string_string_at97.f slices_IndexFunc_string_string_at97.f; exact Ev.bnd hr (Ev.ret _)) (Ev.k ?_)
    rw [hd]
    unfold bodyOk
    have : decide (l.length ≤ 12) = true := by simp; omega
    rw [this]
    simp
  · refine Ev.neg h (Ev.k ?_)
    unfold bodyOk
    have : decide (l.length ≤ 12) = false := by simp; omega
    rw [this]
    simp
end Go.Proofs.YthkibaldmjfmmaaDoor.Q
namespace Go.Proofs.YthkibaldmjfmmaaDoor.Q
open Go.RowKit Go.Proofs.YthkibaldmjfmmaaDoorW.PrintWords Go.Proofs.YthkibaldmjfmmaaDoorW.PrintLast Go.Proofs.YthkibaldmjfmmaaDoorW.PrintMore
set_option linter.unusedVariables false
set_option linter.unusedSimpArgs false
def addrL (u d : ByteArray) : Bool := wordL (LL u) && domL (LL d)
theorem l1AddrOk_ev (u d : ByteArray) (hu : u.size ≤ 1099511627776) (hd : d.size ≤ 1099511627776) : Ev (fun k => spec_l1AddrOk.f k u d) (addrL u d) := by
  unfold spec_l1AddrOk.f addrL
  refine Ev.bnd (l1Word_ev u (by omega)) ?_
  by_cases h : wordL (LL u) = true
  · refine Ev.pos h (Ev.bnd (l1Domain_ev d hd) (Ev.eq (Ev.ret _) ?_))
    rw [h, Bool.true_and]
  · refine Ev.neg h (Ev.eq (Ev.ret _) ?_)
    rw [Bool.not_eq_true] at h
    rw [h, Bool.false_and]
theorem implAddrOk_ev (u d : ByteArray) (hu : u.size ≤ 4294967280) (hd : d.size ≤ 4294967280) : Ev (fun k => impl_AddrOk.f k u d) (addrL u d) := by
  unfold impl_AddrOk.f addrL
  refine Ev.bnd (Ev.k (isLabel_f u (by omega))) ?_
  by_cases h : wordL (LL u) = true
  · refine Ev.pos h (Ev.bnd (implDomainOk_ev d hd) (Ev.eq (Ev.ret _) ?_))
    rw [h, Bool.true_and]
  · refine Ev.neg h (Ev.eq (Ev.ret _) ?_)
    rw [Bool.not_eq_true] at h
    rw [h, Bool.false_and]
theorem toList_nil (s : ByteArray) : (s.toList == ([] : List UInt8)) = decide (s = ⟨#[]⟩) := by
  rw [Bool.eq_iff_iff, beq_iff_eq, decide_eq_true_eq, toList_BB]
def nullA (u d : ByteArray) : Bool := decide (u = ⟨#[]⟩) && decide (d = ⟨#[]⟩)
theorem null_f (u d : ByteArray) : impl_Addr_null.f u d = some (nullA u d) := by
  unfold impl_Addr_null.f nullA
  rw [toList_nil, toList_nil]
theorem l1Null_f (u d : ByteArray) : spec_l1Null.f u d = some (nullA u d) := by
  unfold spec_l1Null.f nullA
  by_cases h : u = ⟨#[]⟩
  · rw [if_pos (toList_BB.2 h), toList_nil, h]
    simp
  · rw [if_neg (fun e => h (toList_BB.1 e))]
    simp [h]
def senderA (u d : ByteArray) : Bool := nullA u d || addrL u d
theorem sender_ev (u d : ByteArray) (hu : u.size ≤ 4294967280) (hd : d.size ≤ 4294967280) : Ev (fun k => impl_Addr_sender.f k u d) (senderA u d) := by
  unfold impl_Addr_sender.f senderA
  refine Ev.bnd (Ev.k (null_f u d)) ?_
  by_cases h : nullA u d = true
  · refine Ev.pos h (Ev.eq (Ev.ret _) ?_)
    rw [h, Bool.true_or]
  · refine Ev.neg h (Ev.bnd (implAddrOk_ev u d hu hd) (Ev.eq (Ev.ret _) ?_))
    rw [Bool.not_eq_true] at h
    rw [h, Bool.false_or]
end Go.Proofs.YthkibaldmjfmmaaDoor.Q
namespace Go.Proofs.YthkibaldmjfmmaaDoor.Q
open Go.RowKit Go.Proofs.YthkibaldmjfmmaaDoorW.PrintWords Go.Proofs.YthkibaldmjfmmaaDoorW.PrintLast Go.Proofs.YthkibaldmjfmmaaDoorW.PrintMore
set_option linter.unusedVariables false
set_option linter.unusedSimpArgs false
abbrev IA := S30
section
variable {f g : Nat → Option Bool} {a b : Bool}
theorem Ev.and (hf : Ev f a) (hg : Ev g b) : Ev (fun k => (f k).bind fun t => if t = true then g k else some false) (a && b) := by
  cases a with
  | true => exact Ev.bnd hf (Ev.pos rfl (Ev.eq hg (Bool.true_and b).symm))
  | false => exact Ev.bnd hf (Ev.neg (by simp) (Ev.eq (Ev.ret _) (Bool.false_and b).symm))
theorem Ev.ifand {c : Prop} [Decidable c] (hg : Ev g b) : Ev (fun k => if c then g k else some false) (decide c && b) := by
  by_cases h : c
  · exact Ev.pos h (Ev.eq hg (by rw [decide_eq_true h, Bool.true_and]))
  · exact Ev.neg h (Ev.eq (Ev.ret _) (by rw [decide_eq_false h, Bool.false_and]))
theorem Ev.fwd (hg : Ev g b) : Ev (fun k => (g k).bind fun t => some t) b := Ev.bnd hg (Ev.ret _)
end
theorem rdIA (l : List IA) (i : Nat) (h : i < l.length) : rd_T30 l (i : Int) = l[i] := dRd l i h
def addrA (x : IA) : Bool := addrL x.f0 x.f1
def inB (a b c : Int) : Bool := decide (b ≤ a ∧ a ≤ c)
def restM (u d : ByteArray) (n : Nat) (body : List ByteArray) : Bool := senderA u d && (inB n 1 4 && bodyOk body)
def mailL (u d : ByteArray) (tos : List IA) (body : List ByteArray) : Bool := (tos.all addrA && decide (pairsA tos).Nodup) && restM u d tos.length body
def MailB (u d : ByteArray) (tos : List IA) (body : List ByteArray) : Prop := u.size ≤ 1048576 ∧ d.size ≤ 1048576 ∧ (tos.length ≤ 1048576 ∧ ∀ x ∈ tos, x.f0.size ≤ 1048576 ∧ x.f1.size ≤ 1048576) ∧ body.length ≤ 1048576 ∧ ∀ s ∈ body, s.size ≤ 1048576
theorem pair_eq (x y : IA) : (x.f0.toList == y.f0.toList && (x.f1.toList == y.f1.toList)) = true ↔ (x.f0, x.f1) = (y.f0, y.f1) := by
  rw [toList_beq, toList_beq, Bool.and_eq_true, decide_eq_true_eq, decide_eq_true_eq, Prod.mk.injEq]
theorem pairsA_get (tos : List IA) (i : Nat) (h : i < tos.length) : (pairsA tos).drop i = (tos[i].f0, tos[i].f1) :: (pairsA tos).drop (i + 1) := by
  unfold pairsA
  rw [List.drop_eq_getElem_cons (by rw [List.length_map]; exact h), List.getElem_map]
theorem pairsA_len (tos : List IA) : (pairsA tos).length = tos.length := by unfold pairsA; rw [List.length_map]
section
variable {u d : ByteArray} {tos : List IA} {body : List ByteArray} (hB : MailB u d tos body)
include hB
theorem l2Ok_hit (i : Nat) (hi : i < tos.length) : ∀ m j : Nat, j + m = i → (tos[i].f0, tos[i].f1) ∈ ((pairsA tos).drop j).take m → Ev (fun k => spec_l2Ok.l1 k (i : Int) (j : Int) u d tos body) false := by
  have hl := hB.2.2.1.1
  intro m
  induction m with
  | zero => intro j hj hc; rw [List.take_zero] at hc; cases hc
  | succ m ih =>
    intro j hj hc
    have hjl : j < tos.length := by omega
    refine Ev.step (fun k => by rw [spec_l2Ok.l1]) (Ev.pos (by omega) (Ev.pos (by omega) (Ev.pos (by omega) (Ev.pos (by omega) (Ev.pos (by omega) ?_)))))
    rw [pairsA_get tos j hjl, List.take_succ_cons] at hc
    rw [rdIA tos j hjl, rdIA tos i hi, wsucc (by omega)]
    by_cases h : (tos[j].f0, tos[j].f1) = (tos[i].f0, tos[i].f1)
    · exact Ev.pos ((pair_eq _ _).2 h) (Ev.ret _)
    · refine Ev.neg (fun q => h ((pair_eq _ _).1 q)) (ih (j + 1) (by omega) ?_)
      rcases List.mem_cons.1 hc with e | e
      · exact absurd e.symm h
      · exact e
theorem l2Ok_miss (i : Nat) (hi : i < tos.length) (r : Bool) (hr : Ev (fun k => spec_l2Ok.l0 k ((i + 1 : Nat) : Int) u d tos body) r) : ∀ m j : Nat, j + m = i → (tos[i].f0, tos[i].f1) ∉ ((pairsA tos).drop j).take m →
    Ev (fun k => spec_l2Ok.l1 k (i : Int) (j : Int) u d tos body) r := by
  have hl := hB.2.2.1.1
  intro m
  induction m with
  | zero =>
    intro j hj _
    refine Ev.step (fun k => by rw [spec_l2Ok.l1]) (Ev.neg (by omega) ?_)
    rw [wsucc (by omega)]
    exact hr
  | succ m ih =>
    intro j hj hc
    have hjl : j < tos.length := by omega
    refine Ev.step (fun k => by rw [spec_l2Ok.l1]) (Ev.pos (by omega) (Ev.pos (by omega) (Ev.pos (by omega) (Ev.pos (by omega) (Ev.pos (by omega) ?_)))))
    rw [pairsA_get tos j hjl, List.take_succ_cons] at hc
    rw [rdIA tos j hjl, rdIA tos i hi, wsucc (by omega)]
    exact Ev.neg (fun q => hc (by rw [(pair_eq _ _).1 q]; exact List.mem_cons_self ..)) (ih (j + 1) (by omega) (fun q => hc (List.mem_cons_of_mem _ q)))
theorem l2Ok_l0 : ∀ m i : Nat, i + m = tos.length → ((pairsA tos).take i).Nodup → Ev (fun k => spec_l2Ok.l0 k (i : Int) u d tos body) (((tos.drop i).all addrA && decide (pairsA tos).Nodup) && restM u d tos.length body) := by
  obtain ⟨h0, h1, ⟨h2, h3⟩, h4, h5⟩ := hB
  have hB : MailB u d tos body := ⟨h0, h1, ⟨h2, h3⟩, h4, h5⟩
  intro m
  induction m with
  | zero =>
    intro i hi hn
    rw [List.take_of_length_le (by rw [pairsA_len]; omega)] at hn
    rw [List.drop_of_length_le (by omega), List.all_nil, Bool.true_and, decide_eq_true hn, Bool.true_and]
    refine Ev.step (fun k => by rw [spec_l2Ok.l0]) (Ev.neg (by omega) (Ev.bnd (l1AddrOk_ev u d (by omega) (by omega)) ?_))
    have hin : Ev (fun k => (spec_l1In.f (tos.length : Int) 1 4).bind fun t => if t = true then ((spec_l2BodyOk.f k body).bind fun t => some t) else some false) (inB tos.length 1 4 && bodyOk body) :=
      Ev.and (Ev.k (l1In_ev _ _ _)) (Ev.fwd (l2BodyOk_ev body (by omega) (fun s hs => by have := h5 s hs; omega)))
    unfold restM senderA
    by_cases ha : addrL u d = true
    · exact Ev.pos ha (Ev.eq hin (by rw [ha, Bool.or_true, Bool.true_and]))
    · rw [Bool.not_eq_true] at ha
      refine Ev.neg (by rw [ha]; simp) (Ev.eq (Ev.and (Ev.k (l1Null_f u d)) hin) ?_)
      rw [ha, Bool.or_false]
  | succ m ih =>
    intro i hi hn
    have hil : i < tos.length := by omega
    obtain ⟨z0, z1⟩ := h3 _ (List.getElem_mem hil)
    refine Ev.step (fun k => by rw [spec_l2Ok.l0]) (Ev.pos (by omega) (Ev.pos (by omega) ?_))
    rw [rdIA tos i hil, List.drop_eq_getElem_cons hil, List.all_cons]
    refine Ev.bnd (l1AddrOk_ev _ _ (by omega) (by omega)) ?_
    have e : addrA tos[i] = addrL tos[i].f0 tos[i].f1 := rfl
    rw [e]
    by_cases ha : addrL tos[i].f0 tos[i].f1 = true
    · rw [ha, Bool.true_and]
      refine Ev.pos rfl ?_
      have ht : (pairsA tos).take (i + 1) = (pairsA tos).take i ++ [(tos[i].f0, tos[i].f1)] := by
        rw [List.take_succ_eq_append_getElem (by rw [pairsA_len]; exact hil)]
        unfold pairsA
        rw [List.getElem_map]
      by_cases hc : (tos[i].f0, tos[i].f1) ∈ (pairsA tos).take i
      · -- met before
        have hno : ¬ (pairsA tos).Nodup := fun q => by
          have q2 : ((pairsA tos).take (i + 1)).Nodup := q.sublist (List.take_sublist _ _)
          rw [ht, List.nodup_append] at q2
          exact q2.2.2 _ hc _ (List.mem_singleton.2 rfl) rfl
        refine Ev.eq (l2Ok_hit hB i hil i 0 (by omega) (by rw [List.drop_zero]; exact hc)) ?_
        rw [decide_eq_false hno, Bool.and_false, Bool.false_and]
      · have hn2 : ((pairsA tos).take (i + 1)).Nodup := by
          rw [ht, List.nodup_append]
          refine ⟨hn, by simp, fun a ha b hb => ?_⟩
          rw [List.mem_singleton.1 hb]
          rintro rfl
          exact hc ha
        exact l2Ok_miss hB i hil _ (ih (i + 1) (by omega) hn2) i 0 (by omega) (by rw [List.drop_zero]; exact hc)
    · rw [Bool.not_eq_true] at ha
      rw [ha, Bool.false_and, Bool.false_and, Bool.false_and]
      exact Ev.neg (by simp) (Ev.ret _)
theorem l2Ok_ev : Ev (fun k => spec_l2Ok.f k u d tos body) (mailL u d tos body) := by
  have := l2Ok_l0 hB tos.length 0 (by omega) (by simp)
  rw [List.drop_zero] at this
  exact this
theorem addrIndex_loop : ∀ m i : Nat, i + m = tos.length → ∃ r, Ev (fun k => slices_IndexFunc_impl_Addr_impl_Addr_at46.l0 k tos (tos.length : Int) (i : Int)) r ∧ (decide (r ≥ 0) = !(tos.drop i).all addrA) := by
  obtain ⟨h0, h1, ⟨h2, h3⟩, h4, h5⟩ := hB
  intro m
  induction m with
  | zero =>
    intro i hi
    refine ⟨-1, Ev.step (fun k => by rw [slices_IndexFunc_impl_Addr_impl_Addr_at46.l0]) (Ev.neg (by omega) (Ev.ret _)), ?_⟩
    rw [List.drop_of_length_le (by omega)]
    rfl
  | succ m ih =>
    intro i hi
    have hil : i < tos.length := by omega
    obtain ⟨z0, z1⟩ := h3 _ (List.getElem_mem hil)
    have hc : Ev (fun k => impl_MailOk_1.f k tos[i].f0 tos[i].f1) (!addrA tos[i]) := Ev.bnd (implAddrOk_ev _ _ (by omega) (by omega)) (Ev.ret _)
    rw [List.drop_eq_getElem_cons hil, List.all_cons]
    by_cases h : addrA tos[i] = true
    · obtain ⟨r, hr, hd⟩ := ih (i + 1) (by omega)
      rw [h] at hc
      refine ⟨r, Ev.step (fun k => by rw [slices_IndexFunc_impl_Addr_impl_Addr_at46.l0]) (Ev.pos (by omega) (Ev.pos (by omega) (Ev.pos (by omega) ?_))), by rw [h, Bool.true_and]; exact hd⟩
      rw [rdIA tos i hil]
      refine Ev.bnd hc (Ev.neg (by simp) ?_)
      rw [wsucc (by omega)]
      exact hr
    · rw [Bool.not_eq_true] at h
      rw [h] at hc
      refine ⟨(i : Int), Ev.step (fun k => by rw [slices_IndexFunc_impl_Addr_impl_Addr_at46.l0]) (Ev.pos (by omega) (Ev.pos (by omega) (Ev.pos (by omega) ?_))), by rw [h, Bool.false_and]; exact decide_eq_true (by omega)⟩
      rw [rdIA tos i hil]
      exact Ev.bnd hc (Ev.pos rfl (Ev.ret _))
theorem implMailOk_ev : Ev (fun k => impl_MailOk.f k u d tos body) (mailL u d tos body) := by
  obtain ⟨r, hr, hd⟩ := addrIndex_loop hB tos.length 0 (by omega)
  rw [List.drop_zero] at hd
  obtain ⟨h0, h1, ⟨h2, h3⟩, h4, h5⟩ := hB
  have hc : Ev (fun k => slices_ContainsFunc_impl_Addr_impl_Addr_at46.f k tos) (!tos.all addrA) := by
    have hr' : Ev (fun k => slices_IndexFunc_impl_Addr_impl_Addr_at46.f k tos) r := hr
    rw [← hd]
    exact Ev.bnd hr' (Ev.ret _)
  have hdi : impl_distinct_impl_Addr.f tos = some (decide (pairsA tos).Nodup) := by
    unfold impl_distinct_impl_Addr.f maxLen
    rw [if_pos ⟨fun x hx => by have := h3 x hx; omega, by omega⟩]
  have hin : Ev (fun k => (impl_within.f (tos.length : Int) 1 4)) (inB tos.length 1 4) := Ev.k (within_ev _ _ _)
  have hl : Ev (fun k => ((slices_ContainsFunc_impl_Addr_impl_Addr_at46.f k tos).bind fun t109 => (if t109 = true then (some false) else ((impl_distinct_impl_Addr.f tos).bind fun t110 => (if t110 = true then ((impl_isBody.f k body).bind fun t111 => (some t111)) else (some false)))))) (tos.all addrA && (decide (pairsA tos).Nodup && bodyOk body)) := by
    refine Ev.bnd hc ?_
    by_cases ha : tos.all addrA = true
    · rw [ha, Bool.true_and]
      exact Ev.neg (by simp) (Ev.and (Ev.k hdi) (Ev.fwd (isBody_ev body (by omega) (fun s hs => by have := h5 s hs; omega))))
    · rw [Bool.not_eq_true] at ha
      rw [ha, Bool.false_and]
      exact Ev.pos rfl (Ev.ret _)
  unfold impl_MailOk.f
  refine Ev.eq (Ev.and (sender_ev u d (by omega) (by omega)) (Ev.and hin hl)) ?_
  unfold mailL restM
  generalize senderA u d = a
  generalize inB (tos.length : Int) 1 4 = b
  generalize tos.all addrA = c
  generalize decide (pairsA tos).Nodup = e
  generalize bodyOk body = f
  cases a <;> cases b <;> cases c <;> cases e <;> cases f <;> rfl
end
end Go.Proofs.YthkibaldmjfmmaaDoor.Q
namespace Go.Proofs.YthkibaldmjfmmaaDoor.Q
open Go.RowKit Go.Proofs.YthkibaldmjfmmaaDoorW.PrintWords Go.Proofs.YthkibaldmjfmmaaDoorW.PrintLast Go.Proofs.YthkibaldmjfmmaaDoorW.PrintMore
set_option linter.unusedVariables false
set_option linter.unusedSimpArgs false
theorem szStringS_loop (l : List ByteArray) (hm : l.length ≤ 9223372036854775807) (hs : ∀ s ∈ l, s.size ≤ 9223372036854775807) : ∀ d i : Nat, i + d = l.length → ∀ a : Int, 0 ≤ a → a ≤ 1048576 →
    ∃ r, Ev (fun k => laws_szStringS.l0 k l a (i : Int)) r ∧ r ≤ a ∧ (0 ≤ r → ∀ s ∈ l.drop i, (s.size : Int) ≤ a) := by
  intro d
  induction d with
  | zero =>
    intro i hi a h0 h1
    refine ⟨a, ?_, Int.le_refl _, fun _ s hs => by rw [List.drop_of_length_le (by omega)] at hs; cases hs⟩
    refine Ev.step (fun k => by rw [laws_szStringS.l0]) ?_
    exact Ev.neg (by omega) (Ev.ret _)
  | succ d ih =>
    intro i hi a h0 h1
    have hz := hs _ (mem_rd l i (by omega))
    have hw : wrap64 (a - ((rdOf ByteArray.empty l (i : Int)).size : Int)) = a - ((rdOf ByteArray.empty l (i : Int)).size : Int) := w64 (by omega) (by omega)
    by_cases h : a - ((rdOf ByteArray.empty l (i : Int)).size : Int) < 0
    · refine ⟨-1, ?_, by omega, by omega⟩
      refine Ev.step (fun k => by rw [laws_szStringS.l0]) ?_
      refine Ev.pos (by omega) (Ev.pos (by omega) ?_)
      rw [hw]
      exact Ev.pos h (Ev.ret _)
    · obtain ⟨r, hr, hle, hall⟩ := ih (i + 1) (by omega) (a - ((rdOf ByteArray.empty l (i : Int)).size : Int)) (by omega) (by omega)
      refine ⟨r, ?_, by omega, fun h0' s hs' => ?_⟩
      · refine Ev.step (fun k => by rw [laws_szStringS.l0]) ?_
        refine Ev.pos (by omega) (Ev.pos (by omega) ?_)
        rw [hw]
        refine Ev.neg h ?_
        rw [wsucc (by omega)]
        exact hr
      · rw [drop_rd l i (by omega)] at hs'
        rcases List.mem_cons.1 hs' with rfl | hs'
        · omega
        · have := hall h0' s hs'
          omega
theorem szStringS_ev (l : List ByteArray) (hm : l.length ≤ 9223372036854775807) (hs : ∀ s ∈ l, s.size ≤ 9223372036854775807) (a : Int) (h0 : 0 ≤ a) (h1 : a ≤ 1048576) :
    ∃ r, Ev (fun k => laws_szStringS.f k l a) r ∧ r ≤ a ∧ (0 ≤ r → (l.length : Int) ≤ a ∧ ∀ s ∈ l, (s.size : Int) ≤ a) := by
  unfold laws_szStringS.f
  have hw : wrap64 (a - (l.length : Int)) = a - (l.length : Int) := w64 (by omega) (by omega)
  rw [hw]
  by_cases h : a - (l.length : Int) < 0
  · exact ⟨-1, Ev.pos h (Ev.ret _), by omega, by omega⟩
  · obtain ⟨r, hr, hle, hall⟩ := szStringS_loop l hm hs l.length 0 (by omega) (a - (l.length : Int)) (by omega) (by omega)
    refine ⟨r, Ev.neg h hr, by omega, fun h0' => ⟨by omega, fun s hs' => ?_⟩⟩
    have := hall h0' s (by simpa using hs')
    omega
theorem toStringS_loop (l : List ByteArray) (hm : l.length ≤ 1099511627776) : ∀ d i : Nat, i + d = l.length → ∀ x : List ByteArray, x.length = l.length → x.take i = l.take i →
    Ev (fun k => laws_toStringS.l0 k l x (i : Int)) l := by
  intro d
  induction d with
  | zero =>
    intro i hi x hx ht
    refine Ev.step (fun k => by rw [laws_toStringS.l0]) ?_
    refine Ev.neg (by omega) (Ev.k ?_)
    rw [List.take_of_length_le (by omega), List.take_of_length_le (by omega)] at ht
    rw [ht]
  | succ d ih =>
    intro i hi x hx ht
    refine Ev.step (fun k => by rw [laws_toStringS.l0]) ?_
    refine Ev.pos (by omega) (Ev.pos (by omega) (Ev.pos (by omega) ?_))
    rw [wsucc (by omega), Int.toNat_natCast]
    refine ih (i + 1) (by omega) _ (by rw [List.length_set, hx]) ?_
    rw [List.take_succ_eq_append_getElem (by rw [List.length_set]; omega), List.take_succ_eq_append_getElem (by omega), List.take_set_of_le (by omega), ht]
    congr 2
    rw [List.getElem_set_self, rd_get l i (by omega)]
theorem toStringS_ev (l : List ByteArray) (hm : l.length ≤ 1099511627776) : Ev (fun k => laws_toStringS.f k l) l := by
  unfold laws_toStringS.f
  refine Ev.pos (by omega) ?_
  rw [Int.toNat_natCast]
  refine Ev.pos (by omega) ?_
  exact toStringS_loop l hm l.length 0 (by omega) _ (by simp) (by simp)
end Go.Proofs.YthkibaldmjfmmaaDoor.Q
namespace Go.Proofs.YthkibaldmjfmmaaDoor.Q
open Go.RowKit Go.Proofs.YthkibaldmjfmmaaDoorW.PrintWords Go.Proofs.YthkibaldmjfmmaaDoorW.PrintLast Go.Proofs.YthkibaldmjfmmaaDoorW.PrintMore
theorem szAddr_f (x y : ByteArray) (hx : x.size ≤ 9223372036854775807) (hy : y.size ≤ 9223372036854775807) (a : Int) (h0 : 0 ≤ a) (h1 : a ≤ 1048576) :
    ∃ r, laws_szAddr.f x y a = some r ∧ r ≤ a ∧ (0 ≤ r → (x.size : Int) ≤ a ∧ (y.size : Int) ≤ a) := by
  unfold laws_szAddr.f
  have hw : wrap64 (a - (x.size : Int)) = a - (x.size : Int) := w64 (by omega) (by omega)
  rw [hw]
  by_cases h : a - (x.size : Int) < 0
  · exact ⟨-1, if_pos h, by omega, by omega⟩
  · have hw2 : wrap64 (a - (x.size : Int) - (y.size : Int)) = a - (x.size : Int) - (y.size : Int) := w64 (by omega) (by omega)
    rw [if_neg h, hw2]
    by_cases h2 : a - (x.size : Int) - (y.size : Int) < 0
    · exact ⟨-1, if_pos h2, by omega, by omega⟩
    · exact ⟨_, if_neg h2, by omega, by omega⟩
theorem eqAddr_refl (x y : ByteArray) : laws_eqAddr.f x y x y = some true := by
  unfold laws_eqAddr.f
  rw [if_pos rfl, if_pos rfl]
end Go.Proofs.YthkibaldmjfmmaaDoor.Q
namespace Go.Proofs.YthkibaldmjfmmaaDoor.Q
open Go.RowKit Go.Proofs.YthkibaldmjfmmaaDoorW.PrintWords Go.Proofs.YthkibaldmjfmmaaDoorW.PrintLast Go.Proofs.YthkibaldmjfmmaaDoorW.PrintMore
set_option linter.unusedVariables false
set_option linter.unusedSimpArgs false
abbrev LA := S23
theorem rdLA (l : List LA) (i : Nat) (h : i < l.length) : rd_T23 l (i : Int) = l[i] := by
  unfold rd_T23
  rw [Int.toNat_natCast, List.getD_eq_getElem?_getD, List.getElem?_eq_getElem h]
  rfl
theorem szAddrS_loop (l : List LA) (hm : l.length ≤ 9223372036854775807) (hs : ∀ s ∈ l, s.f0.size ≤ 9223372036854775807 ∧ s.f1.size ≤ 9223372036854775807) : ∀ d i : Nat, i + d = l.length → ∀ a : Int, 0 ≤ a → a ≤ 1048576 →
    ∃ r, Ev (fun k => laws_szAddrS.l0 k l a (i : Int)) r ∧ r ≤ a ∧ (0 ≤ r → ∀ s ∈ l.drop i, (s.f0.size : Int) ≤ a ∧ (s.f1.size : Int) ≤ a) := by
  intro d
  induction d with
  | zero =>
    intro i hi a h0 h1
    refine ⟨a, ?_, Int.le_refl _, fun _ s hs => by rw [List.drop_of_length_le (by omega)] at hs; cases hs⟩
    refine Ev.step (fun k => by rw [laws_szAddrS.l0]) ?_
    exact Ev.neg (by omega) (Ev.ret _)
  | succ d ih =>
    intro i hi a h0 h1
    have hil : i < l.length := by omega
    obtain ⟨z0, z1⟩ := hs l[i] (List.getElem_mem hil)
    obtain ⟨r, hr, hle, hall⟩ := szAddr_f _ _ z0 z1 a h0 h1
    by_cases h : r < 0
    · refine ⟨-1, ?_, by omega, by omega⟩
      refine Ev.step (fun k => by rw [laws_szAddrS.l0]) ?_
      refine Ev.pos (by omega) (Ev.pos (by omega) ?_)
      rw [rdLA l i hil]
      exact Ev.bnd (Ev.k hr) (Ev.pos h (Ev.ret _))
    · obtain ⟨q, hq, hle2, hall2⟩ := ih (i + 1) (by omega) r (by omega) (by omega)
      refine ⟨q, ?_, by omega, fun h0' s hs' => ?_⟩
      · refine Ev.step (fun k => by rw [laws_szAddrS.l0]) ?_
        refine Ev.pos (by omega) (Ev.pos (by omega) ?_)
        rw [rdLA l i hil]
        refine Ev.bnd (Ev.k hr) (Ev.neg h ?_)
        rw [wsucc (by omega)]
        exact hq
      · rw [List.drop_eq_getElem_cons hil] at hs'
        rcases List.mem_cons.1 hs' with rfl | hs'
        · exact hall (by omega)
        · have := hall2 h0' s hs'
          omega
theorem szAddrS_ev (l : List LA) (hm : l.length ≤ 9223372036854775807) (hs : ∀ s ∈ l, s.f0.size ≤ 9223372036854775807 ∧ s.f1.size ≤ 9223372036854775807) (a : Int) (h0 : 0 ≤ a) (h1 : a ≤ 1048576) :
    ∃ r, Ev (fun k => laws_szAddrS.f k l a) r ∧ r ≤ a ∧ (0 ≤ r → (l.length : Int) ≤ a ∧ ∀ s ∈ l, (s.f0.size : Int) ≤ a ∧ (s.f1.size : Int) ≤ a) := by
  unfold laws_szAddrS.f
  have hw : wrap64 (a - (l.length : Int)) = a - (l.length : Int) := w64 (by omega) (by omega)
  rw [hw]
  by_cases h : a - (l.length : Int) < 0
  · exact ⟨-1, Ev.pos h (Ev.ret _), by omega, by omega⟩
  · obtain ⟨r, hr, hle, hall⟩ := szAddrS_loop l hm hs l.length 0 (by omega) (a - (l.length : Int)) (by omega) (by omega)
    refine ⟨r, Ev.neg h hr, by omega, fun h0' => ⟨by omega, fun s hs' => ?_⟩⟩
    have := hall h0' s (by simpa using hs')
    omega
def toIA (x : LA) : IA := ⟨x.f0, x.f1⟩
theorem toAddrS_loop (l : List LA) (hm : l.length ≤ 1099511627776) : ∀ d i : Nat, i + d = l.length → ∀ x : List IA, x.length = l.length → x.take i = (l.take i).map toIA →
    Ev (fun k => laws_toAddrS.l0 k l x (i : Int)) (l.map toIA) := by
  intro d
  induction d with
  | zero =>
    intro i hi x hx ht
    refine Ev.step (fun k => by rw [laws_toAddrS.l0]) ?_
    refine Ev.neg (by omega) (Ev.k ?_)
    rw [List.take_of_length_le (by omega), List.take_of_length_le (by omega)] at ht
    rw [ht]
  | succ d ih =>
    intro i hi x hx ht
    have hil : i < l.length := by omega
    refine Ev.step (fun k => by rw [laws_toAddrS.l0]) ?_
    refine Ev.pos (by omega) (Ev.pos (by omega) ?_)
    rw [rdLA l i hil]
    refine Ev.bnd (Ev.k (show laws_toAddr.f _ _ = some _ from rfl)) ?_
    refine Ev.pos (by omega) ?_
    rw [wsucc (by omega), Int.toNat_natCast]
    refine ih (i + 1) (by omega) _ (by rw [List.length_set, hx]) ?_
    rw [List.take_succ_eq_append_getElem (by rw [List.length_set]; omega), List.take_succ_eq_append_getElem (by omega), List.take_set_of_le (by omega), ht, List.map_append]
    congr 2
    rw [List.getElem_set_self]
    rfl
theorem toAddrS_ev (l : List LA) (hm : l.length ≤ 1099511627776) : Ev (fun k => laws_toAddrS.f k l) (l.map toIA) := by
  unfold laws_toAddrS.f
  refine Ev.pos (by omega) ?_
  rw [Int.toNat_natCast]
  refine Ev.pos (by omega) ?_
  exact toAddrS_loop l hm l.length 0 (by omega) _ (by simp) (by simp)
theorem eqAddrS_loop (l : List IA) (hm : l.length ≤ 1099511627776) : ∀ d i : Nat, i + d = l.length → Ev (fun k => laws_eqAddrS.l0 k l l (i : Int)) true := by
  intro d
  induction d with
  | zero =>
    intro i hi
    refine Ev.step (fun k => by rw [laws_eqAddrS.l0]) ?_
    exact Ev.neg (by omega) (Ev.ret _)
  | succ d ih =>
    intro i hi
    refine Ev.step (fun k => by rw [laws_eqAddrS.l0]) ?_
    refine Ev.pos (by omega) (Ev.pos (by omega) (Ev.pos (by omega) ?_))
    refine Ev.bnd (Ev.k (eqAddr_refl _ _)) ?_
    refine Ev.pos rfl ?_
    rw [wsucc (by omega)]
    exact ih (i + 1) (by omega)
theorem eqAddrS_refl (l : List IA) (hm : l.length ≤ 1099511627776) : Ev (fun k => laws_eqAddrS.f k l l) true := by
  unfold laws_eqAddrS.f
  exact Ev.pos rfl (eqAddrS_loop l hm l.length 0 (by omega))
theorem szMail_ev (u d : ByteArray) (tos : List LA) (body : List ByteArray) (hu : u.size ≤ 9223372036854775807) (hd : d.size ≤ 9223372036854775807) (ht : tos.length ≤ 9223372036854775807 ∧ ∀ s ∈ tos, s.f0.size ≤ 9223372036854775807 ∧ s.f1.size ≤ 9223372036854775807)
    (hb : body.length ≤ 9223372036854775807 ∧ ∀ s ∈ body, s.size ≤ 9223372036854775807) (a : Int) (h0 : 0 ≤ a) (h1 : a ≤ 1048576) :
    ∃ r, Ev (fun k => laws_szMail.f k u d tos body a) r ∧ r ≤ a ∧ (0 ≤ r → MailB u d (tos.map toIA) body) := by
  unfold laws_szMail.f
  obtain ⟨r, hr, hle, hall⟩ := szAddr_f u d hu hd a h0 h1
  by_cases h : r < 0
  · exact ⟨-1, Ev.bnd (Ev.k hr) (Ev.pos h (Ev.ret _)), by omega, by omega⟩
  · obtain ⟨t, ht', hle2, hall2⟩ := szAddrS_ev tos ht.1 ht.2 r (by omega) (by omega)
    by_cases h' : t < 0
    · exact ⟨-1, Ev.bnd (Ev.k hr) (Ev.neg h (Ev.bnd ht' (Ev.pos h' (Ev.ret _)))), by omega, by omega⟩
    · obtain ⟨q, hq, hle3, hall3⟩ := szStringS_ev body hb.1 hb.2 t (by omega) (by omega)
      by_cases h'' : q < 0
      · exact ⟨-1, Ev.bnd (Ev.k hr) (Ev.neg h (Ev.bnd ht' (Ev.neg h' (Ev.bnd hq (Ev.pos h'' (Ev.ret _)))))), by omega, by omega⟩
      · have e1 := hall (by omega)
        have e2 := hall2 (by omega)
        have e3 := hall3 (by omega)
        refine ⟨q, Ev.bnd (Ev.k hr) (Ev.neg h (Ev.bnd ht' (Ev.neg h' (Ev.bnd hq (Ev.neg h'' (Ev.ret _)))))), by omega, fun _ => ⟨by omega, by omega, ⟨by rw [List.length_map]; omega, fun x hx => ?_⟩, by omega, fun s hs => ?_⟩⟩
        · obtain ⟨y, hy, rfl⟩ := List.mem_map.1 hx
          have := e2.2 y hy
          show y.f0.size ≤ _ ∧ y.f1.size ≤ _
          omega
        · have := e3.2 s hs; omega
theorem toMail_ev {u d : ByteArray} {tos : List LA} {body : List ByteArray} (h : MailB u d (tos.map toIA) body) : Ev (fun k => laws_toMail.f k u d tos body) (u, d, tos.map toIA, body) := by
  unfold laws_toMail.f
  obtain ⟨_, _, ⟨h2, _⟩, h4, _⟩ := h
  rw [List.length_map] at h2
  exact Ev.bnd (Ev.k (show laws_toAddr.f u d = some (u, d) from rfl)) (Ev.bnd (toAddrS_ev tos (by omega)) (Ev.bnd (toStringS_ev body (by omega)) (Ev.ret _)))
theorem eqMail_refl {u d : ByteArray} {tos : List IA} {body : List ByteArray} (h : MailB u d tos body) : Ev (fun k => laws_eqMail.f k u d tos body u d tos body) true := by
  unfold laws_eqMail.f
  obtain ⟨_, _, ⟨h2, _⟩, h4, _⟩ := h
  exact Ev.bnd (Ev.k (eqAddr_refl u d)) (Ev.pos rfl (Ev.bnd (eqAddrS_refl tos (by omega)) (Ev.pos rfl (Ev.bnd (eqStringS_ev body body (by omega)) (Ev.pos (by simp) (Ev.ret _))))))
end Go.Proofs.YthkibaldmjfmmaaDoor.Q
namespace Go.Proofs.YthkibaldmjfmmaaDoor.Q
open Go.RowKit Go.Proofs.YthkibaldmjfmmaaDoorW.PrintWords Go.Proofs.YthkibaldmjfmmaaDoorW.PrintLast Go.Proofs.YthkibaldmjfmmaaDoorW.PrintMore
set_option linter.unusedVariables false
theorem rdInt (l : List Int) (i : Nat) (h : i < l.length) : rd l (i : Int) = l[i] := by
  unfold rd
  rw [Int.toNat_natCast, List.getD_eq_getElem?_getD, List.getElem?_eq_getElem h]
  rfl
def outOk (x : Int) : Bool := inB x 0 4
def cliFin (state at_ : Int) : Bool := if state = 3 then decide (at_ > 0) else true
def cliL (name u d : ByteArray) (tos : List IA) (body : List ByteArray) (state at_ : Int) (outs : List Int) : Bool :=
  outs.all outOk && (mailL u d tos body && (domL (LL name) && (decide ((outs.length : Int) = (tos.length : Int)) && (inB state 0 7 && (inB at_ 0 tos.length && cliFin state at_)))))
theorem outIndex_loop {outs : List Int} (ho : outs.length ≤ 1048576) : ∀ m i : Nat, i + m = outs.length → ∃ r, Ev (fun k => slices_IndexFunc_int_int_at76.l0 k outs (outs.length : Int) (i : Int)) r ∧ (decide (r ≥ 0) = !(outs.drop i).all outOk) := by
  intro m
  induction m with
  | zero =>
    intro i hi
    refine ⟨-1, Ev.step (fun k => by rw [slices_IndexFunc_int_int_at76.l0]) (Ev.neg (by omega) (Ev.ret _)), ?_⟩
    rw [List.drop_of_length_le (by omega)]
    rfl
  | succ m ih =>
    intro i hi
    have hil : i < outs.length := by omega
    have hc : impl_CliOk_1.f outs[i] = some (!outOk outs[i]) := by
      unfold impl_CliOk_1.f
      rw [within_ev]
      rfl
    rw [List.drop_eq_getElem_cons hil, List.all_cons]
    by_cases h : outOk outs[i] = true
    · obtain ⟨r, hr, hd⟩ := ih (i + 1) (by omega)
      rw [h] at hc
      refine ⟨r, Ev.step (fun k => by rw [slices_IndexFunc_int_int_at76.l0]) (Ev.pos (by omega) (Ev.pos (by omega) (Ev.pos (by omega) ?_))), by rw [h, Bool.true_and]; exact hd⟩
      rw [rdInt outs i hil]
      refine Ev.bnd (Ev.k hc) (Ev.neg (by simp) ?_)
      rw [wsucc (by omega)]
      exact hr
    · rw [Bool.not_eq_true] at h
      rw [h] at hc
      refine ⟨(i : Int), Ev.step (fun k => by rw [slices_IndexFunc_int_int_at76.l0]) (Ev.pos (by omega) (Ev.pos (by omega) (Ev.pos (by omega) ?_))), by rw [h, Bool.false_and]; exact decide_eq_true (by omega)⟩
      rw [rdInt outs i hil]
      exact Ev.bnd (Ev.k hc) (Ev.pos rfl (Ev.ret _))
section
variable {name u d : ByteArray} {tos : List IA} {body : List ByteArray} {state at_ : Int} {outs : List Int} (hB : MailB u d tos body) (hn : name.size ≤ 1048576) (ho : outs.length ≤ 1048576)
include hB hn ho
theorem l4Ok_loop : ∀ m i : Nat, i + m = outs.length → Ev (fun k => spec_l4Ok.l0 k (i : Int) name u d tos body state at_ outs) ((outs.drop i).all outOk && (mailL u d tos body && (domL (LL name) && (decide ((outs.length : Int) = (tos.length : Int)) && (inB state 0 7 && (inB at_ 0 tos.length && cliFin state at_)))))) := by
  have hin : ∀ a b c : Int, Ev (fun _ => spec_l1In.f a b c) (inB a b c) := fun a b c => Ev.k (l1In_ev a b c)
  intro m
  induction m with
  | zero =>
    intro i hi
    rw [List.drop_of_length_le (by omega), List.all_nil, Bool.true_and]
    refine Ev.step (fun k => by rw [spec_l4Ok.l0]) (Ev.neg (by omega) ?_)
    refine Ev.and (l2Ok_ev hB) (Ev.and (l1Domain_ev name (by omega)) (Ev.ifand (Ev.and (hin _ _ _) (Ev.and (hin _ _ _) ?_))))
    unfold cliFin
    by_cases h : state = 3
    · exact Ev.eq (Ev.pos h (Ev.ret _)) (if_pos h).symm
    · exact Ev.eq (Ev.neg h (Ev.ret _)) (if_neg h).symm
  | succ m ih =>
    intro i hi
    have hil : i < outs.length := by omega
    rw [List.drop_eq_getElem_cons hil, List.all_cons, Bool.and_assoc]
    refine Ev.step (fun k => by rw [spec_l4Ok.l0]) (Ev.pos (by omega) (Ev.pos (by omega) ?_))
    rw [rdInt outs i hil, wsucc (by omega)]
    exact Ev.and (hin _ _ _) (ih (i + 1) (by omega))
theorem l4Ok_ev : Ev (fun k => spec_l4Ok.f k name u d tos body state at_ outs) (cliL name u d tos body state at_ outs) := by
  have := l4Ok_loop (state := state) (at_ := at_) hB hn ho outs.length 0 (by omega)
  rw [List.drop_zero] at this
  exact this
theorem implCliOk_ev : Ev (fun k => impl_CliOk.f k name u d tos body state at_ outs) (cliL name u d tos body state at_ outs) := by
  have hin : ∀ a b c : Int, Ev (fun _ => impl_within.f a b c) (inB a b c) := fun a b c => Ev.k (within_ev a b c)
  obtain ⟨r, hr, hd⟩ := outIndex_loop ho outs.length 0 (by omega)
  rw [List.drop_zero] at hd
  have hc : Ev (fun k => slices_ContainsFunc_int_int_at76.f k outs) (!outs.all outOk) := by
    have hr' : Ev (fun k => slices_IndexFunc_int_int_at76.f k outs) r := hr
    rw [← hd]
    exact Ev.bnd hr' (Ev.ret _)
  have hall : Ev (fun k => (slices_ContainsFunc_int_int_at76.f k outs).bind fun t => some (!t)) (outs.all outOk) := Ev.eq (Ev.bnd hc (Ev.ret _)) (by simp)
  have hj1 : Ev (fun k => impl_CliOk.j0 k true name u d tos body state at_ outs) false := Ev.step (fun k => by rw [impl_CliOk.j0]) (Ev.pos rfl (Ev.ret _))
  have hj0 : Ev (fun k => impl_CliOk.j0 k false name u d tos body state at_ outs) (inB at_ 0 tos.length && (cliFin state at_ && (decide ((outs.length : Int) = (tos.length : Int)) && outs.all outOk))) := by
    refine Ev.step (fun k => by rw [impl_CliOk.j0]) (Ev.neg (by simp) (Ev.and (hin _ _ _) ?_))
    unfold cliFin
    by_cases h : state = 3
    · rw [if_pos h]
      exact Ev.pos h (Ev.ifand (Ev.ifand hall))
    · rw [if_neg h, Bool.true_and]
      exact Ev.neg h (Ev.ifand hall)
  have heq : cliL name u d tos body state at_ outs = (domL (LL name) && (mailL u d tos body && (inB state 0 7 && (inB at_ 0 tos.length && (cliFin state at_ && (decide ((outs.length : Int) = (tos.length : Int)) && outs.all outOk)))))) := by
    unfold cliL
    generalize domL (LL name) = a
    generalize mailL u d tos body = b
    generalize inB state 0 7 = c
    generalize inB at_ 0 tos.length = e
    generalize cliFin state at_ = f
    generalize decide ((outs.length : Int) = (tos.length : Int)) = g
    generalize outs.all outOk = h
    cases a <;> cases b <;> cases c <;> cases e <;> cases f <;> cases g <;> cases h <;> rfl
  rw [heq]
  unfold impl_CliOk.f
  refine Ev.bnd (implDomainOk_ev name (by omega)) ?_
  by_cases h1 : domL (LL name) = true
  · refine Ev.pos h1 (Ev.bnd (implMailOk_ev hB) ?_)
    rw [h1, Bool.true_and]
    by_cases h2 : mailL u d tos body = true
    · refine Ev.pos h2 (Ev.bnd (hin _ _ _) ?_)
      rw [h2, Bool.true_and]
      by_cases h3 : inB state 0 7 = true
      · rw [h3, Bool.true_and]
        exact hj0
      · rw [Bool.not_eq_true] at h3
        rw [h3, Bool.false_and]
        exact hj1
    · rw [Bool.not_eq_true] at h2
      refine Ev.neg (by rw [h2]; simp) ?_
      rw [h2, Bool.false_and]
      exact hj1
  · rw [Bool.not_eq_true] at h1
    refine Ev.neg (by rw [h1]; simp) ?_
    rw [h1, Bool.false_and]
    exact hj1
end
end Go.Proofs.YthkibaldmjfmmaaDoor.Q
namespace Go.Proofs.YthkibaldmjfmmaaDoor.Q
open Go.RowKit Go.Proofs.YthkibaldmjfmmaaDoorW.PrintWords Go.Proofs.YthkibaldmjfmmaaDoorW.PrintLast Go.Proofs.YthkibaldmjfmmaaDoorW.PrintMore
set_option linter.unusedVariables false
theorem toIntS_loop (l : List Int) (hm : l.length ≤ 1099511627776) : ∀ d i : Nat, i + d = l.length → ∀ x : List Int, x.length = l.length → x.take i = l.take i → Ev (fun k => laws_toIntS.l0 k l x (i : Int)) l := by
  intro d
  induction d with
  | zero =>
    intro i hi x hx ht
    refine Ev.step (fun k => by rw [laws_toIntS.l0]) ?_
    refine Ev.neg (by omega) (Ev.k ?_)
    rw [List.take_of_length_le (by omega), List.take_of_length_le (by omega)] at ht
    rw [ht]
  | succ d ih =>
    intro i hi x hx ht
    have hil : i < l.length := by omega
    refine Ev.step (fun k => by rw [laws_toIntS.l0]) ?_
    refine Ev.pos (by omega) (Ev.pos (by omega) (Ev.pos (by omega) ?_))
    rw [wsucc (by omega), Int.toNat_natCast, rdInt l i hil]
    refine ih (i + 1) (by omega) _ (by rw [List.length_set, hx]) ?_
    rw [List.take_succ_eq_append_getElem (by rw [List.length_set]; omega), List.take_succ_eq_append_getElem (by omega), List.take_set_of_le (by omega), ht]
    congr 2
    rw [List.getElem_set_self]
theorem toIntS_ev (l : List Int) (hm : l.length ≤ 1099511627776) : Ev (fun k => laws_toIntS.f k l) l := by
  unfold laws_toIntS.f
  refine Ev.pos (by omega) ?_
  rw [Int.toNat_natCast]
  exact Ev.pos (by omega) (toIntS_loop l hm l.length 0 (by omega) _ (by simp) (by simp))
theorem eqIntS_loop (l : List Int) (hm : l.length ≤ 1099511627776) : ∀ d i : Nat, i + d = l.length → Ev (fun k => laws_eqIntS.l0 k l l (i : Int)) true := by
  intro d
  induction d with
  | zero =>
    intro i hi
    exact Ev.step (fun k => by rw [laws_eqIntS.l0]) (Ev.neg (by omega) (Ev.ret _))
  | succ d ih =>
    intro i hi
    refine Ev.step (fun k => by rw [laws_eqIntS.l0]) (Ev.pos (by omega) (Ev.pos (by omega) (Ev.pos (by omega) (Ev.pos rfl ?_))))
    rw [wsucc (by omega)]
    exact ih (i + 1) (by omega)
theorem eqIntS_refl (l : List Int) (hm : l.length ≤ 1099511627776) : Ev (fun k => laws_eqIntS.f k l l) true := by
  unfold laws_eqIntS.f
  exact Ev.pos rfl (eqIntS_loop l hm l.length 0 (by omega))
theorem fnExactCliOk_pure : ∀ (a0_0 : ByteArray) (a0_1 : ByteArray) (a0_2 : ByteArray) (l0_3 : List LA) (l0_4 : List ByteArray) (a0_5 : Int) (a0_6 : Int) (l0_7 : List Int), a0_0.size ≤ maxLen → a0_1.size ≤ maxLen → a0_2.size ≤ maxLen → (l0_3.length ≤ maxLen ∧ ∀ z ∈ l0_3, (z.f0.size ≤ maxLen ∧ z.f1.size ≤ maxLen)) → (l0_4.length ≤ maxLen ∧ ∀ z ∈ l0_4, z.size ≤ maxLen) → (Lit.int .i64 a0_5).wf = true → (Lit.int .i64 a0_6).wf = true → (l0_7.length ≤ maxLen ∧ ∀ z ∈ l0_7, (Lit.int .i64 z).wf = true) → ∃ k, laws_FnExactCliOk.f k a0_0 a0_1 a0_2 l0_3 l0_4 a0_5 a0_6 l0_7 = some true := by
  intro name u d tos body state at_ outs h0 h1 h2 h3 h4 _ _ h7
  unfold maxLen at h0 h1 h2 h3 h4 h7
  refine Ev.ex ?_
  unfold laws_FnExactCliOk.f
  have hw : wrap64 (1048576 - (name.size : Int)) = 1048576 - (name.size : Int) := w64 (by omega) (by omega)
  by_cases q0 : 1048576 - (name.size : Int) < 0
  · refine Ev.bnd (a := -1) ?_ (Ev.pos (by omega) (Ev.ret _))
    unfold laws_szCli.f
    rw [hw]
    exact Ev.pos q0 (Ev.ret _)
  obtain ⟨r, hr, hle, hall⟩ := szMail_ev u d tos body h1 h2 h3 h4 (1048576 - (name.size : Int)) (by omega) (by omega)
  by_cases q1 : r < 0
  · refine Ev.bnd (a := -1) ?_ (Ev.pos (by omega) (Ev.ret _))
    unfold laws_szCli.f
    rw [hw]
    exact Ev.neg q0 (Ev.bnd hr (Ev.pos q1 (Ev.ret _)))
  have hw2 : wrap64 (r - (outs.length : Int)) = r - (outs.length : Int) := w64 (by omega) (by omega)
  by_cases q2 : r - (outs.length : Int) < 0
  · refine Ev.bnd (a := -1) ?_ (Ev.pos (by omega) (Ev.ret _))
    unfold laws_szCli.f
    rw [hw]
    exact Ev.neg q0 (Ev.bnd hr (Ev.neg q1 (Ev.bnd (Ev.k (show laws_szIntS.f outs r = some (-1) by unfold laws_szIntS.f; rw [hw2, if_pos q2])) (Ev.pos (by omega) (Ev.ret _)))))
  · have hz : Ev (fun k => laws_szCli.f k name u d tos body state at_ outs 1048576) (r - (outs.length : Int)) := by
      unfold laws_szCli.f
      rw [hw]
      exact Ev.neg q0 (Ev.bnd hr (Ev.neg q1 (Ev.bnd (Ev.k (show laws_szIntS.f outs r = some _ by unfold laws_szIntS.f; rw [hw2, if_neg q2])) (Ev.neg q2 (Ev.ret _)))))
    have hB := hall (by omega)
    have hto : Ev (fun k => laws_toCli.f k name u d tos body state at_ outs) (name, u, d, tos.map toIA, body, state, at_, outs) := by
      unfold laws_toCli.f
      exact Ev.bnd (toMail_ev hB) (Ev.bnd (toIntS_ev outs (by omega)) (Ev.ret _))
    have hs : Ev (fun k => spec_CliOk.f k name u d (tos.map toIA) body state at_ outs) (cliL name u d (tos.map toIA) body state at_ outs) := Ev.fwd (l4Ok_ev hB (by omega) (by omega))
    have hi := implCliOk_ev (name := name) (state := state) (at_ := at_) (outs := outs) hB (by omega) (by omega)
    have he : Ev (fun k => laws_eqCli.f k name u d (tos.map toIA) body state at_ outs name u d (tos.map toIA) body state at_ outs) true := by
      unfold laws_eqCli.f
      exact Ev.pos rfl (Ev.bnd (eqMail_refl hB) (Ev.pos rfl (Ev.pos rfl (Ev.pos rfl (Ev.bnd (eqIntS_refl outs (by omega)) (Ev.pos rfl (Ev.ret _)))))))
    exact Ev.bnd hz (Ev.neg (by omega) (Ev.bnd hto (Ev.bnd hs (Ev.bnd hto (Ev.bnd hi (Ev.neg (by simp) (Ev.bnd hto (Ev.bnd he (Ev.pos rfl (Ev.ret _))))))))))
end Go.Proofs.YthkibaldmjfmmaaDoor.Q
