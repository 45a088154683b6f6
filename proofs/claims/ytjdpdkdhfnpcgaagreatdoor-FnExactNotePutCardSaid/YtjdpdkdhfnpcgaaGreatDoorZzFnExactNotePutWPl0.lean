/- Of texts of ours what this claim needs. -/
import Derived.Test.YtjdpdkdhfnpcgaaGreatDoorZzFnExactNotePutWQ0
import Derived.Lib.Index
import Derived.Lib.IndexMore
import Derived.Lib.Strings
import Derived.Test.YtjdpdkdhfnpcgaaGreatDoorZzFnExactNotePutWHSplit
import Derived.Lib.SplitLaws
import Derived.Lib.IndexLaws
import Derived.Test.YtjdpdkdhfnpcgaaGreatDoorZzFnExactNotePutWQ4
import Derived.Test.YtjdpdkdhfnpcgaaGreatDoorZzFnExactNotePutWQ3
import Derived.Test.YtjdpdkdhfnpcgaaGreatDoorZzFnExactNotePutWQ5
import Derived.Test.YtjdpdkdhfnpcgaaGreatDoorZzFnExactNotePutWQ11
import Derived.Test.YtjdpdkdhfnpcgaaGreatDoorZzFnExactNotePutWQ18
import Derived.Test.YtjdpdkdhfnpcgaaGreatDoorZzFnExactNotePutWQ13
import Derived.Test.YtjdpdkdhfnpcgaaGreatDoorZzFnExactNotePutWQ8
import Derived.Test.YtjdpdkdhfnpcgaaGreatDoorZzFnExactNotePutWQ15
import Derived.Test.YtjdpdkdhfnpcgaaGreatDoorZzFnExactNotePutWHDist
import Derived.Test.YtjdpdkdhfnpcgaaGreatDoorZzFnExactNotePutWQ6
import Derived.Test.YtjdpdkdhfnpcgaaGreatDoorZzFnExactNotePutWQ7
import Derived.Test.YtjdpdkdhfnpcgaaGreatDoorZzFnExactNotePutWQ14
import Derived.Test.YtjdpdkdhfnpcgaaGreatDoorZzFnExactNotePutWQ10
import Derived.Test.YtjdpdkdhfnpcgaaGreatDoorZzFnExactNotePutWQ9
import Derived.Test.YtjdpdkdhfnpcgaaGreatDoorZzFnExactNotePutWHDot
import Derived.Test.YtjdpdkdhfnpcgaaGreatDoorZzFnExactNotePutWQ2
import Derived.Test.YtjdpdkdhfnpcgaaGreatDoorZzFnExactNotePutWHNum
import Derived.Lib.ItoaLen
import Derived.Lib.ItoaMem
import Derived.Test.YtjdpdkdhfnpcgaaGreatDoorZzFnExactNotePutWQ16
import Derived.Test.YtjdpdkdhfnpcgaaGreatDoorZzFnExactNotePutWQ17
import Derived.Test.YtjdpdkdhfnpcgaaGreatDoorZzFnExactNotePutWQ19
namespace Go.Proofs.YtjdpdkdhfnpcgaaGreatDoor.Q
open Go.RowKit Go.Proofs.YtjdpdkdhfnpcgaaGreatDoorW.PrintWords Go.Proofs.YtjdpdkdhfnpcgaaGreatDoorW.PrintLast Go.Proofs.YtjdpdkdhfnpcgaaGreatDoorW.PrintMore
set_option linter.unusedVariables false
set_option linter.unusedSimpArgs false
section rounds
variable {α β : Type} {g g' f : Nat → Option α} {r : α}
theorem Ev.pos {c : Prop} [Decidable c] (h : c) (e : Ev g r) : Ev (fun k => if c then g k else g' k) r := by
  obtain ⟨K, hK⟩ := e
  exact ⟨K, fun k hk => (if_pos h).trans (hK k hk)⟩
theorem Ev.neg {c : Prop} [Decidable c] (h : ¬ c) (e : Ev g' r) : Ev (fun k => if c then g k else g' k) r := by
  obtain ⟨K, hK⟩ := e
  exact ⟨K, fun k hk => (if_neg h).trans (hK k hk)⟩
theorem Ev.ret (r : α) : Ev (fun _ => some r) r := ⟨0, fun _ _ => rfl⟩
theorem Ev.k {x : Option α} (h : x = some r) : Ev (fun _ => x) r := ⟨0, fun _ _ => h⟩
theorem Ev.bnd {h : Nat → Option α} {F : Nat → α → Option β} {a : α} {r : β} (e : Ev h a) (k : Ev (fun n => F n a) r) : Ev (fun n => (h n).bind (F n)) r := Ev.bind e k
theorem Ev.eq {r' : α} (e : Ev g r) (h : r = r') : Ev g r' := h ▸ e
theorem Ev.ex (h : Ev g r) : ∃ k, g k = some r := by
  obtain ⟨K, hK⟩ := h
  exact ⟨K, hK K (Nat.le_refl _)⟩
end rounds
theorem w64 {x : Int} (h0 : -9223372036854775808 ≤ x) (h1 : x ≤ 9223372036854775807) : wrap64 x = x := by unfold wrap64; omega
theorem wsucc {i : Nat} (h : i ≤ 9223372036854775806) : wrap64 ((i : Int) + 1) = ((i + 1 : Nat) : Int) := by rw [w64 (by omega) (by omega)]; omega
abbrev LL (s : ByteArray) : List UInt8 := s.data.toList
abbrev BB (l : List UInt8) : ByteArray := ⟨l.toArray⟩
theorem BB_LL (s : ByteArray) : BB (LL s) = s := by cases s; simp
theorem LL_BB (l : List UInt8) : LL (BB l) = l := by simp
theorem LL_inj {a b : ByteArray} (h : LL a = LL b) : a = b := by rw [← BB_LL a, ← BB_LL b, h]
theorem toList_LL (s : ByteArray) : s.toList = LL s := Lib.toList_data s
theorem toList_eq {a b : ByteArray} : a.toList = b.toList ↔ a = b := by
  rw [toList_LL, toList_LL]
  exact ⟨LL_inj, fun h => by rw [h]⟩
theorem toList_beq (a b : ByteArray) : (a.toList == b.toList) = decide (a = b) := by
  by_cases h : a = b
  · subst h; simp
  · rw [decide_eq_false h, beq_eq_false_iff_ne]
    exact fun e => h (toList_eq.1 e)
theorem toList_BB {a : ByteArray} {l : List UInt8} : a.toList = l ↔ a = BB l := by
  rw [toList_LL]
  constructor
  · intro h; rw [← BB_LL a, h]
  · intro h; rw [h, LL_BB]
theorem size_LL (s : ByteArray) : s.size = (LL s).length := Lib.size_eq s
theorem size_BB (l : List UInt8) : (BB l).size = l.length := by rw [size_LL, LL_BB]
theorem LL_append (a b : ByteArray) : LL (a ++ b) = LL a ++ LL b := by unfold LL; rw [ByteArray.data_append, Array.toList_append]
theorem LL_extract (s : ByteArray) (a b : Nat) : LL (s.extract a b) = ((LL s).drop a).take (b - a) := Lib.extract_data s a b
theorem extract_BB (s : ByteArray) (a b : Nat) : s.extract a b = BB (((LL s).drop a).take (b - a)) := LL_inj (by rw [LL_extract, LL_BB])
theorem size_append (a b : ByteArray) : (a ++ b).size = a.size + b.size := by rw [size_LL, LL_append, List.length_append, ← size_LL, ← size_LL]
theorem bt_get (s : ByteArray) (i : Nat) (h : i < s.size) : ∃ c, (LL s)[i]? = some c ∧ bt s (i : Int) = (c.toNat : Int) := by
  have hl : i < (LL s).length := by rw [← size_LL]; exact h
  refine ⟨(LL s)[i], List.getElem?_eq_getElem hl, ?_⟩
  unfold bt
  simp only [Int.toNat_natCast]
  rw [dif_pos h]
  rfl
theorem drop_bt (s : ByteArray) (i : Nat) (h : i < s.size) : ∃ c, (LL s).drop i = c :: (LL s).drop (i + 1) ∧ bt s (i : Int) = (c.toNat : Int) := by
  obtain ⟨c, hc, hb⟩ := bt_get s i h
  have hl : i < (LL s).length := by rw [← size_LL]; exact h
  refine ⟨c, ?_, hb⟩
  rw [List.drop_eq_getElem_cons hl]
  rw [List.getElem?_eq_getElem hl] at hc
  rw [Option.some.inj hc]
theorem u8_ext {c d : UInt8} (h : c.toNat = d.toNat) : c = d := UInt8.toNat.inj h
theorem rd_get (l : List ByteArray) (i : Nat) (h : i < l.length) : rdOf ByteArray.empty l (i : Int) = l[i] := by
  unfold rdOf
  rw [Int.toNat_natCast, List.getD_eq_getElem?_getD, List.getElem?_eq_getElem h]
  rfl
theorem drop_rd (l : List ByteArray) (i : Nat) (h : i < l.length) : l.drop i = rdOf ByteArray.empty l (i : Int) :: l.drop (i + 1) := by
  rw [rd_get l i h, List.drop_eq_getElem_cons h]
theorem mem_rd (l : List ByteArray) (i : Nat) (h : i < l.length) : rdOf ByteArray.empty l (i : Int) ∈ l := by
  rw [rd_get l i h]
  exact List.getElem_mem h
theorem int_of_nat {i : Int} (h : 0 ≤ i) : ∃ n : Nat, i = (n : Int) := ⟨i.toNat, by omega⟩
def CRLF : List UInt8 := [13, 10]
end Go.Proofs.YtjdpdkdhfnpcgaaGreatDoor.Q
namespace Go.Proofs.YtjdpdkdhfnpcgaaGreatDoor.Q
open Go.RowKit Go.Proofs.YtjdpdkdhfnpcgaaGreatDoorW.PrintWords Go.Proofs.YtjdpdkdhfnpcgaaGreatDoorW.PrintLast Go.Proofs.YtjdpdkdhfnpcgaaGreatDoorW.PrintMore
set_option linter.unusedVariables false
set_option linter.unusedSimpArgs false
theorem occ1_iff (l : List UInt8) (c : UInt8) (j : Nat) : Lib.occAt l [c] j = true ↔ l[j]? = some c := by
  unfold Lib.occAt
  have e0 : l[j]? = (l.drop j)[0]? := by rw [List.getElem?_drop, Nat.add_zero]
  rw [e0]
  cases l.drop j with
  | nil => simp [List.isPrefixOf]
  | cons a t => simp [List.isPrefixOf]; exact eq_comm
abbrev cuts (c : UInt8) (n : Nat) (l : List UInt8) : List (List UInt8) := Lib.splitK [c] 0 n l
theorem cuts_at {c : UInt8} {n i : Nat} {l : List UInt8} (h : Lib.index l [c] = (i : Int)) : cuts c (n + 1) l = l.take i :: cuts c n (l.drop (i + 1)) := by
  unfold cuts
  rw [Lib.splitK, if_neg (fun e => by have := beq_iff_eq.1 e; omega), h]
  rfl
theorem cuts_none {c : UInt8} {n : Nat} {l : List UInt8} (h : Lib.index l [c] = -1) : cuts c n l = [l] := by
  unfold cuts
  cases n with
  | zero => rfl
  | succ n => rw [Lib.splitK, if_pos (beq_iff_eq.2 h)]
theorem index1_cases (l : List UInt8) (c : UInt8) : Lib.index l [c] = -1 ∨ ∃ i : Nat, Lib.index l [c] = i ∧ i < l.length := by
  rcases Lib.index_spec l [c] with ⟨h, _⟩ | ⟨i, h, _⟩
  · exact .inl h
  · have := Lib.index_room l [c] (by omega)
    simp at this
    exact .inr ⟨i, h, by omega⟩
theorem cuts_hit {c : UInt8} {n i : Nat} {l : List UInt8} (hi : l[i]? = some c) (hno : ∀ j, j < i → l[j]? ≠ some c) : cuts c (n + 1) l = l.take i :: cuts c n (l.drop (i + 1)) := by
  have hil := (List.getElem?_eq_some_iff.1 hi).1
  refine cuts_at (Lib.index_first (by omega) ((occ1_iff l c i).2 hi) (fun j hj => ?_))
  rw [← Bool.not_eq_true, occ1_iff]
  exact hno j hj
theorem cuts_miss {c : UInt8} {n : Nat} {l : List UInt8} (hno : ∀ j : Nat, l[j]? ≠ some c) : cuts c n l = [l] := by
  refine cuts_none ?_
  have : Lib.index l [c] = -1 := Lib.index_none (fun j _ => by rw [← Bool.not_eq_true, occ1_iff]; exact hno j)
  exact this
theorem cuts_len (c : UInt8) : ∀ (n : Nat) (l : List UInt8), (cuts c n l).length = min n (Lib.count l [c]) + 1 := by
  intro n
  induction n with
  | zero => intro l; simp [Lib.splitK]
  | succ n ih =>
    intro l
    rcases index1_cases l c with h | ⟨i, h, _⟩
    · rw [cuts_none h, Lib.count_miss h]; simp
    · rw [cuts_at h, List.length_cons, ih, Lib.count_hit (by simp) h]
      simp only [List.length_cons, List.length_nil, Nat.zero_add]
      omega
theorem cuts_more (c : UInt8) : ∀ (n : Nat) (l : List UInt8), Lib.count l [c] ≤ n → cuts c n l = cuts c (Lib.count l [c]) l := by
  intro n
  induction n with
  | zero => intro l h; rw [show Lib.count l [c] = 0 by omega]
  | succ n ih =>
    intro l h
    rcases index1_cases l c with hm | ⟨i, hm, _⟩
    · rw [cuts_none hm, cuts_none hm]
    · have e := Lib.count_hit (s := l) (sub := [c]) (by simp) hm
      simp only [List.length_cons, List.length_nil, Nat.zero_add] at e
      rw [cuts_at hm, e, Nat.add_comm 1, cuts_at hm, ih _ (by omega)]
theorem splitL_eq (s : ByteArray) (c : UInt8) : splitL s ⟨#[c]⟩ = (cuts c (Lib.count (LL s) [c]) (LL s)).map BB := by
  have h := Lib.splitB_data ⟨#[c]⟩ 0 (Lib.countB s ⟨#[c]⟩) s
  have e : (splitL s ⟨#[c]⟩).map LL = cuts c (Lib.count (LL s) [c]) (LL s) := h
  rw [← e, List.map_map]
  conv => lhs; rw [← List.map_id (splitL s ⟨#[c]⟩)]
  exact List.map_congr_left (fun x _ => (BB_LL x).symm)
theorem splitL_len (s : ByteArray) (c : UInt8) : (splitL s ⟨#[c]⟩).length ≤ s.size + 1 := by
  unfold splitL
  have h1 := Lib.splitB_length_le ⟨#[c]⟩ 0 (Lib.countB s ⟨#[c]⟩) s
  have h2 := Lib.countB_le ⟨#[c]⟩ (Nat.le_refl 1) s.size s (Nat.le_refl _)
  omega
theorem l1Cut_loop (s : ByteArray) (c : UInt8) (n : Nat) (hn : n ≤ 1000000) (hm : s.size ≤ 1099511627776) : ∀ d i : Nat, i + d = s.size → ∀ (out : List ByteArray) (a m : Nat), a ≤ i → out.length + m = n → (∀ j, a ≤ j → j < i → (LL s)[j]? ≠ some c) →
    Ev (fun k => spec_l1Cut.l0 k s (c.toNat : Int) (n : Int) out (a : Int) (i : Int)) (out ++ (cuts c m ((LL s).drop a)).map BB) := by
  have hsz := size_LL s
  have hlast : ∀ (out : List ByteArray) (a i : Nat), a ≤ s.size → out.length ≤ 1000000 → Ev (fun k => spec_l1Cut.j1 k s (c.toNat : Int) (n : Int) out (a : Int) (i : Int) false) (out ++ [BB ((LL s).drop a)]) := by
    intro out a i ha ho
    refine Ev.step (fun k => by rw [spec_l1Cut.j1]) ?_
    refine Ev.neg (by simp) (Ev.pos (by omega) (Ev.pos (by omega) (Ev.pos (by omega) (Ev.eq (Ev.ret _) ?_))))
    rw [Int.toNat_natCast, extract_BB, List.take_of_length_le (by rw [List.length_drop]; omega)]
  intro d
  induction d with
  | zero =>
    intro i hi out a m hai hom hno
    refine Ev.step (fun k => by rw [spec_l1Cut.l0]) ?_
    refine Ev.neg (by omega) ?_
    rw [cuts_miss (fun j => ?_)]
    · exact hlast out a i (by omega) (by omega)
    · rw [List.getElem?_drop]
      by_cases hj : a + j < i
      · exact hno _ (by omega) hj
      · rw [List.getElem?_eq_none (by omega)]; simp
  | succ d ih =>
    intro i hi out a m hai hom hno
    refine Ev.step (fun k => by rw [spec_l1Cut.l0]) ?_
    refine Ev.pos (by omega) ?_
    cases m with
    | zero =>
      rw [show (decide ((out.length : Int) < (n : Int))) = false by rw [decide_eq_false_iff_not]; omega]
      exact hlast out a i (by omega) (by omega)
    | succ m =>
      rw [show (decide ((out.length : Int) < (n : Int))) = true by rw [decide_eq_true_eq]; omega]
      refine Ev.step (fun k => by rw [spec_l1Cut.j1]) ?_
      refine Ev.pos rfl (Ev.pos (by omega) (Ev.pos (by omega) ?_))
      obtain ⟨b, hb, hbt⟩ := bt_get s i (by omega)
      rw [hbt, wsucc (by omega)]
      by_cases h : b = c
      · subst h
        refine Ev.pos rfl (Ev.pos (by omega) (Ev.pos (by omega) (Ev.pos (by omega) (Ev.pos (by omega) ?_))))
        have e := cuts_hit (c := b) (n := m) (i := i - a) (l := (LL s).drop a) (by rw [List.getElem?_drop, show a + (i - a) = i by omega]; exact hb) (fun j hj => by rw [List.getElem?_drop]; exact hno _ (by omega) (by omega))
        rw [e, List.drop_drop, show a + (i - a + 1) = i + 1 by omega]
        refine Ev.eq (ih (i + 1) (by omega) _ (i + 1) m (Nat.le_refl _) (by simp; omega) (fun j h1 h2 => by omega)) ?_
        rw [Int.toNat_natCast, Int.toNat_natCast, extract_BB, List.append_assoc]
        rfl
      · refine Ev.neg (fun e => h (u8_ext (by omega))) ?_
        refine ih (i + 1) (by omega) out a (m + 1) (by omega) hom (fun j h1 h2 => ?_)
        by_cases hj : j < i
        · exact hno j h1 hj
        · rw [show j = i by omega, hb]
          simpa using h
theorem l1Cut_ev (s : ByteArray) (c : UInt8) (n : Nat) (hn : n ≤ 1000000) (hm : s.size ≤ 1099511627776) : Ev (fun k => spec_l1Cut.f k s (c.toNat : Int) (n : Int)) ((cuts c n (LL s)).map BB) := by
  have := l1Cut_loop s c n hn hm s.size 0 (by omega) [] 0 n (Nat.le_refl _) (by simp) (fun j _ h => by omega)
  exact this
def wordCh (b : UInt8) : Bool := decide (97 ≤ b.toNat ∧ b.toNat ≤ 122) || decide (48 ≤ b.toNat ∧ b.toNat ≤ 57)
def wordL (l : List UInt8) : Bool := l.all wordCh && decide (1 ≤ l.length ∧ l.length ≤ 8)
theorem l1In_ev (a b c : Int) : spec_l1In.f a b c = some (decide (b ≤ a ∧ a ≤ c)) := by
  unfold spec_l1In.f
  by_cases h : a ≥ b
  · rw [if_pos h]
    congr 1
    rw [decide_eq_decide]
    omega
  · rw [if_neg h]
    congr 1
    symm
    rw [decide_eq_false_iff_not]
    omega
theorem within_ev (a b c : Int) : impl_within.f a b c = some (decide (b ≤ a ∧ a ≤ c)) := l1In_ev a b c
theorem l1Word_loop (s : ByteArray) (hm : s.size ≤ 9223372036854775807) : ∀ d i : Nat, i + d = s.size → Ev (fun k => spec_l1Word.l0 k s (i : Int)) (((LL s).drop i).all wordCh && decide (1 ≤ (LL s).length ∧ (LL s).length ≤ 8)) := by
  have hsz := size_LL s
  intro d
  induction d with
  | zero =>
    intro i hi
    refine Ev.step (fun k => by rw [spec_l1Word.l0]) ?_
    refine Ev.neg (by omega) (Ev.bnd (Ev.k (l1In_ev _ _ _)) (Ev.eq (Ev.ret _) ?_))
    rw [List.drop_of_length_le (by omega), List.all_nil, Bool.true_and, decide_eq_decide]
    omega
  | succ d ih =>
    intro i hi
    obtain ⟨c, hc, hb⟩ := drop_bt s i (by omega)
    have := ih (i + 1) (by omega)
    refine Ev.step (fun k => by rw [spec_l1Word.l0]) ?_
    refine Ev.pos (by omega) (Ev.pos (by omega) ?_)
    rw [hb, hc, List.all_cons, wsucc (by omega)]
    by_cases h : wordCh c = true
    · rw [h, Bool.true_and]
      unfold wordCh at h
      simp only [Bool.or_eq_true, decide_eq_true_eq] at h
      by_cases h1 : (c.toNat : Int) < 97
      · exact Ev.pos h1 (Ev.neg (by omega) (Ev.neg (by omega) this))
      · exact Ev.neg h1 (Ev.neg (by omega) this)
    · rw [Bool.not_eq_true] at h
      rw [h, Bool.false_and, Bool.false_and]
      unfold wordCh at h
      simp only [Bool.or_eq_false_iff, decide_eq_false_iff_not] at h
      by_cases h1 : (c.toNat : Int) < 97
      · refine Ev.pos h1 ?_
        by_cases h2 : (c.toNat : Int) < 48
        · exact Ev.pos h2 (Ev.ret _)
        · exact Ev.neg h2 (Ev.pos (by omega) (Ev.ret _))
      · exact Ev.neg h1 (Ev.pos (by omega) (Ev.neg (by omega) (Ev.pos (by omega) (Ev.ret _))))
theorem l1Word_ev (s : ByteArray) (hm : s.size ≤ 9223372036854775807) : Ev (fun k => spec_l1Word.f k s) (wordL (LL s)) := l1Word_loop s hm s.size 0 (by omega)
theorem dropWhile_nil (p : UInt8 → Bool) (l : List UInt8) : l.dropWhile p = [] ↔ ∀ x ∈ l, p x = true := by
  induction l with
  | nil => simp
  | cons a t ih =>
    rw [List.dropWhile_cons]
    by_cases h : p a = true
    · rw [if_pos h, ih]
      constructor
      · intro e x hx
        rcases List.mem_cons.1 hx with q | hx
        · rw [q]; exact h
        · exact e x hx
      · intro e x hx
        exact e x (List.mem_cons_of_mem _ hx)
    · rw [if_neg h]
      constructor
      · intro e; cases e
      · intro e; exact absurd (e a (List.mem_cons_self ..)) h
theorem trimS_nil (l cs : List UInt8) : Lib.trimS l cs = [] ↔ l.all (cs.contains ·) = true := by
  unfold Lib.trimS Lib.trimLeftS Lib.trimRightS
  rw [dropWhile_nil]
  constructor
  · intro h
    have : l.reverse.dropWhile (cs.contains ·) = [] := by
      cases e : l.reverse.dropWhile (cs.contains ·) with
      | nil => rfl
      | cons y t =>
        have h1 := h y (by rw [e]; simp)
        have h2 := List.head_dropWhile_not (p := (cs.contains ·)) (l := l.reverse) (by rw [e]; simp)
        simp only [e, List.head_cons] at h2
        rw [h1] at h2
        cases h2
    rw [dropWhile_nil] at this
    rw [List.all_eq_true]
    exact fun x hx => this x (List.mem_reverse.2 hx)
  · intro h x hx
    rw [List.all_eq_true] at h
    have : x ∈ l.reverse := (List.dropWhile_sublist _).subset (List.mem_reverse.1 hx)
    exact h x (List.mem_reverse.1 this)
def wordCs : List UInt8 := [97, 98, 99, 100, 101, 102, 103, 104, 105, 106, 107, 108, 109, 110, 111, 112, 113, 114, 115, 116, 117, 118, 119, 120, 121, 122, 48, 49, 50, 51, 52, 53, 54, 55, 56, 57]
theorem wordCs_all : ∀ n : Fin 256, wordCs.contains (UInt8.ofNat n.val) = wordCh (UInt8.ofNat n.val) := by decide +kernel
theorem wordCs_ok (b : UInt8) : wordCs.contains b = wordCh b := by
  have := wordCs_all ⟨b.toNat, b.toNat_lt⟩
  simpa using this
theorem isLabel_f (s : ByteArray) (hm : s.size ≤ 9223372036854775807) : impl_isLabel.f s = some (wordL (LL s)) := by
  have hsz := size_LL s
  unfold impl_isLabel.f wordL
  rw [within_ev]
  simp only [Option.bind_some]
  by_cases h : (1 : Int) ≤ (s.size : Int) ∧ (s.size : Int) ≤ 8
  · rw [if_pos (by simpa using h)]
    have ht : strings_Trim.f s (⟨#[97, 98, 99, 100, 101, 102, 103, 104, 105, 106, 107, 108, 109, 110, 111, 112, 113, 114, 115, 116, 117, 118, 119, 120, 121, 122, 48, 49, 50, 51, 52, 53, 54, 55, 56, 57]⟩ : ByteArray) = some (BB (Lib.trimS (LL s) wordCs)) := by
      unfold strings_Trim.f
      rw [if_pos ⟨hm, by decide, by decide⟩]
      rfl
    rw [ht]
    simp only [Option.bind_some]
    rw [show decide (1 ≤ (LL s).length ∧ (LL s).length ≤ 8) = true by rw [decide_eq_true_eq]; omega, Bool.and_true]
    congr 1
    rw [Bool.eq_iff_iff, beq_iff_eq, toList_BB]
    have e : BB (Lib.trimS (LL s) wordCs) = BB [] ↔ Lib.trimS (LL s) wordCs = [] := ⟨fun e => by have := congrArg LL e; rw [LL_BB, LL_BB] at this; exact this, fun e => by rw [e]⟩
    rw [e, trimS_nil]
    have : (fun x => wordCs.contains x) = wordCh := funext wordCs_ok
    rw [this]
  · rw [if_neg (by simpa using h)]
    rw [show decide (1 ≤ (LL s).length ∧ (LL s).length ≤ 8) = false by rw [decide_eq_false_iff_not]; omega, Bool.and_false]
def domL (l : List UInt8) : Bool := (cuts 46 3 l).all wordL && decide ((cuts 46 3 l).length ≤ 3)
theorem domL_all (l : List UInt8) : domL l = ((cuts 46 (Lib.count l [46]) l).all wordL && decide ((cuts 46 (Lib.count l [46]) l).length ≤ 3)) := by
  unfold domL
  by_cases h : Lib.count l [46] ≤ 3
  · rw [cuts_more 46 3 l h]
  · have e1 := cuts_len 46 3 l
    have e2 := cuts_len 46 (Lib.count l [46]) l
    rw [show decide ((cuts 46 3 l).length ≤ 3) = false by rw [decide_eq_false_iff_not]; omega, show decide ((cuts 46 (Lib.count l [46]) l).length ≤ 3) = false by rw [decide_eq_false_iff_not]; omega, Bool.and_false, Bool.and_false]
theorem all_drop_rd (x : List ByteArray) (i : Nat) (h : i < x.length) (p : ByteArray → Bool) : (x.drop i).all p = (p (rdOf ByteArray.empty x (i : Int)) && (x.drop (i + 1)).all p) := by rw [drop_rd x i h, List.all_cons]
theorem l1Domain_loop (x : List ByteArray) (hx : x.length ≤ 1000000) (hs : ∀ s ∈ x, s.size ≤ 9223372036854775807) : ∀ d i : Nat, i + d = x.length → Ev (fun k => spec_l1Domain.l0 k x (i : Int)) ((x.drop i).all (fun s => wordL (LL s)) && decide (x.length ≤ 3)) := by
  intro d
  induction d with
  | zero =>
    intro i hi
    refine Ev.step (fun k => by rw [spec_l1Domain.l0]) ?_
    refine Ev.neg (by omega) (Ev.eq (Ev.ret _) ?_)
    rw [List.drop_of_length_le (by omega), List.all_nil, Bool.true_and, decide_eq_decide]
    omega
  | succ d ih =>
    intro i hi
    refine Ev.step (fun k => by rw [spec_l1Domain.l0]) ?_
    refine Ev.pos (by omega) (Ev.pos (by omega) (Ev.bnd (l1Word_ev _ (hs _ (mem_rd x i (by omega)))) ?_))
    rw [all_drop_rd x i (by omega), wsucc (by omega)]
    by_cases h : wordL (LL (rdOf ByteArray.empty x (i : Int))) = true
    · refine Ev.pos h (Ev.eq (ih (i + 1) (by omega)) ?_)
      rw [h, Bool.true_and]
    · refine Ev.neg h (Ev.eq (Ev.ret _) ?_)
      rw [Bool.not_eq_true] at h
      rw [h, Bool.false_and, Bool.false_and]
theorem cuts_size (c : UInt8) : ∀ (n : Nat) (l : List UInt8), ∀ p ∈ cuts c n l, p.length ≤ l.length := by
  intro n
  induction n with
  | zero => intro l p hp; rw [List.mem_singleton.1 hp]; exact Nat.le_refl _
  | succ n ih =>
    intro l p hp
    rcases index1_cases l c with h | ⟨i, h, _⟩
    · rw [cuts_none h] at hp
      rw [List.mem_singleton.1 hp]; exact Nat.le_refl _
    · rw [cuts_at h] at hp
      rcases List.mem_cons.1 hp with rfl | hp
      · rw [List.length_take]; omega
      · have := ih _ p hp
        rw [List.length_drop] at this
        omega
theorem l1Domain_ev (s : ByteArray) (hm : s.size ≤ 1099511627776) : Ev (fun k => spec_l1Domain.f k s) (domL (LL s)) := by
  have hsz := size_LL s
  unfold spec_l1Domain.f
  refine Ev.bnd (l1Cut_ev s 46 3 (by omega) hm) ?_
  have hl := cuts_len 46 3 (LL s)
  have := l1Domain_loop ((cuts 46 3 (LL s)).map BB) (by rw [List.length_map]; omega) (fun t ht => by
    obtain ⟨u, hu, rfl⟩ := List.mem_map.1 ht
    have := cuts_size 46 3 (LL s) u hu
    rw [size_BB]
    omega) _ 0 (by simp; rfl)
  refine Ev.eq this ?_
  unfold domL
  rw [List.drop_zero, List.all_map, List.length_map]
  rfl
theorem implDomainOk_loop (x3 x : List ByteArray) (h3 : x3.length ≤ 1099511627777) (hx : x.length ≤ 1099511627777) (hs : ∀ s ∈ x, s.size ≤ 9223372036854775807) : ∀ d i : Nat, i + d = x.length → Ev (fun k => impl_DomainOk.l0 k x3 x (x.length : Int) (i : Int)) ((x.drop i).all (fun s => wordL (LL s)) && decide (x3.length ≤ 3)) := by
  intro d
  induction d with
  | zero =>
    intro i hi
    refine Ev.step (fun k => by rw [impl_DomainOk.l0]) ?_
    refine Ev.neg (by omega) (Ev.eq (Ev.ret _) ?_)
    rw [List.drop_of_length_le (by omega), List.all_nil, Bool.true_and, decide_eq_decide]
    omega
  | succ d ih =>
    intro i hi
    refine Ev.step (fun k => by rw [impl_DomainOk.l0]) ?_
    refine Ev.pos (by omega) (Ev.pos (by omega) (Ev.pos (by omega) (Ev.bnd (Ev.k (isLabel_f _ (hs _ (mem_rd x i (by omega))))) ?_)))
    rw [all_drop_rd x i (by omega), wsucc (by omega)]
    by_cases h : wordL (LL (rdOf ByteArray.empty x (i : Int))) = true
    · refine Ev.pos h (Ev.eq (ih (i + 1) (by omega)) ?_)
      rw [h, Bool.true_and]
    · refine Ev.neg h (Ev.eq (Ev.ret _) ?_)
      rw [Bool.not_eq_true] at h
      rw [h, Bool.false_and, Bool.false_and]
theorem implDomainOk_ev (s : ByteArray) (hm : s.size ≤ 4294967280) : Ev (fun k => impl_DomainOk.f k s) (domL (LL s)) := by
  have hsz := size_LL s
  unfold impl_DomainOk.f
  have hl := splitL_len s 46
  have hf : strings_Split.f s ⟨#[46]⟩ = some (splitL s ⟨#[46]⟩) := by
    unfold strings_Split.f
    rw [if_pos ⟨by omega, by decide, by omega⟩]
  refine Ev.bnd (Ev.k hf) ?_
  have hmem : ∀ t ∈ splitL s ⟨#[46]⟩, t.size ≤ 9223372036854775807 := fun t ht => by
    rw [splitL_eq] at ht
    obtain ⟨u, hu, rfl⟩ := List.mem_map.1 ht
    have := cuts_size 46 _ (LL s) u hu
    rw [size_BB]
    omega
  refine Ev.eq (implDomainOk_loop _ (splitL s ⟨#[46]⟩) (by omega) (by omega) hmem _ 0 (by simp; rfl)) ?_
  rw [domL_all, List.drop_zero, splitL_eq, List.all_map, List.length_map]
  rfl
end Go.Proofs.YtjdpdkdhfnpcgaaGreatDoor.Q
namespace Go.Proofs.YtjdpdkdhfnpcgaaGreatDoor.Q
open Go.RowKit Go.Proofs.YtjdpdkdhfnpcgaaGreatDoorW.PrintWords Go.Proofs.YtjdpdkdhfnpcgaaGreatDoorW.PrintLast Go.Proofs.YtjdpdkdhfnpcgaaGreatDoorW.PrintMore
set_option linter.unusedVariables false
set_option linter.unusedSimpArgs false
theorem eqStringS_loop (a b : List ByteArray) (hl : a.length = b.length) (hm : a.length ≤ 4611686018427387904) : ∀ d i : Nat, i + d = a.length → Ev (fun k => laws_eqStringS.l0 k a b (i : Int)) (decide (a.drop i = b.drop i)) := by
  intro d
  induction d with
  | zero =>
    intro i hi
    refine Ev.step (fun k => by rw [laws_eqStringS.l0]) ?_
    refine Ev.neg (by omega) (Ev.k ?_)
    rw [List.drop_of_length_le (by omega), List.drop_of_length_le (by omega)]
    rfl
  | succ d ih =>
    intro i hi
    refine Ev.step (fun k => by rw [laws_eqStringS.l0]) ?_
    refine Ev.pos (by omega) (Ev.pos (by omega) (Ev.pos (by omega) ?_))
    rw [drop_rd a i (by omega), drop_rd b i (by omega)]
    by_cases h : rdOf ByteArray.empty a (i : Int) = rdOf ByteArray.empty b (i : Int)
    · refine Ev.pos (toList_eq.2 h) ?_
      rw [wsucc (by omega), h]
      exact Ev.eq (ih (i + 1) (by omega)) (by simp)
    · refine Ev.neg (fun e => h (toList_eq.1 e)) (Ev.k ?_)
      simp [h]
theorem eqStringS_ev (a b : List ByteArray) (hm : a.length ≤ 4611686018427387904) : Ev (fun k => laws_eqStringS.f k a b) (decide (a = b)) := by
  unfold laws_eqStringS.f
  by_cases h : a.length = b.length
  · refine Ev.pos (by omega) ?_
    exact Ev.eq (eqStringS_loop a b h hm a.length 0 (by omega)) (by simp)
  · refine Ev.neg (by omega) (Ev.k ?_)
    have : a ≠ b := fun e => h (by rw [e])
    simp [this]
def chOk (c : UInt8) : Bool := decide (32 ≤ c.toNat) && decide (c.toNat ≤ 126)
def lineOk (s : ByteArray) : Bool := (LL s).all chOk && decide (s.size ≤ 40)
def bodyOk (l : List ByteArray) : Bool := l.all lineOk && decide (l.length ≤ 12)
theorem l2LineOk_loop (s : ByteArray) (hm : s.size ≤ 9223372036854775807) : ∀ d i : Nat, i + d = s.size → Ev (fun k => spec_l2LineOk.l0 k s (i : Int)) (((LL s).drop i).all chOk && decide (s.size ≤ 40)) := by
  intro d
  induction d with
  | zero =>
    intro i hi
    refine Ev.step (fun k => by rw [spec_l2LineOk.l0]) ?_
    refine Ev.neg (by omega) (Ev.k ?_)
    rw [List.drop_of_length_le (by rw [← size_LL]; omega)]
    simp only [List.all_nil, Bool.true_and]
    congr 1
    rw [decide_eq_decide]
    omega
  | succ d ih =>
    intro i hi
    obtain ⟨c, hc, hb⟩ := drop_bt s i (by omega)
    refine Ev.step (fun k => by rw [spec_l2LineOk.l0]) ?_
    refine Ev.pos (by omega) (Ev.pos (by omega) ?_)
    rw [hb, hc, List.all_cons]
    by_cases h1 : (c.toNat : Int) < 32
    · refine Ev.pos h1 (Ev.k ?_)
      have : chOk c = false := by unfold chOk; simp; omega
      rw [this]; rfl
    · refine Ev.neg h1 ?_
      by_cases h2 : (c.toNat : Int) > 126
      · refine Ev.pos h2 (Ev.k ?_)
        have : chOk c = false := by unfold chOk; simp; omega
        rw [this]; rfl
      · refine Ev.neg h2 ?_
        have : chOk c = true := by unfold chOk; simp; omega
        rw [this, Bool.true_and, wsucc (by omega)]
        exact ih (i + 1) (by omega)
theorem l2LineOk_ev (s : ByteArray) (hm : s.size ≤ 9223372036854775807) : Ev (fun k => spec_l2LineOk.f k s) (lineOk s) := l2LineOk_loop s hm s.size 0 (by omega)
theorem l2BodyOk_loop (l : List ByteArray) (hm : l.length ≤ 9223372036854775807) (hs : ∀ s ∈ l, s.size ≤ 9223372036854775807) : ∀ d i : Nat, i + d = l.length → Ev (fun k => spec_l2BodyOk.l0 k l (i : Int)) ((l.drop i).all lineOk && decide (l.length ≤ 12)) := by
  intro d
  induction d with
  | zero =>
    intro i hi
    refine Ev.step (fun k => by rw [spec_l2BodyOk.l0]) ?_
    refine Ev.neg (by omega) (Ev.k ?_)
    rw [List.drop_of_length_le (by omega)]
    simp only [List.all_nil, Bool.true_and]
    congr 1
    rw [decide_eq_decide]
    omega
  | succ d ih =>
    intro i hi
    refine Ev.step (fun k => by rw [spec_l2BodyOk.l0]) ?_
    refine Ev.pos (by omega) (Ev.pos (by omega) ?_)
    refine Ev.bnd (l2LineOk_ev _ (hs _ (mem_rd l i (by omega)))) ?_
    rw [drop_rd l i (by omega), List.all_cons]
    by_cases h : lineOk (rdOf ByteArray.empty l (i : Int)) = true
    · refine Ev.pos h ?_
      rw [h, Bool.true_and, wsucc (by omega)]
      exact ih (i + 1) (by omega)
    · refine Ev.neg h (Ev.k ?_)
      rw [Bool.not_eq_true] at h
      rw [h]; rfl
theorem l2BodyOk_ev (l : List ByteArray) (hm : l.length ≤ 9223372036854775807) (hs : ∀ s ∈ l, s.size ≤ 9223372036854775807) : Ev (fun k => spec_l2BodyOk.f k l) (bodyOk l) := l2BodyOk_loop l hm hs l.length 0 (by omega)
theorem isLine_loop (s : ByteArray) (hm : s.size ≤ 9223372036854775807) : ∀ d i : Nat, i + d = s.size → Ev (fun k => impl_isLine.l0 k s (s.size : Int) (i : Int)) (((LL s).drop i).all chOk && decide (s.size ≤ 40)) := by
  intro d
  induction d with
  | zero =>
    intro i hi
    refine Ev.step (fun k => by rw [impl_isLine.l0]) ?_
    refine Ev.neg (by omega) (Ev.k ?_)
    rw [List.drop_of_length_le (by rw [← size_LL]; omega)]
    simp only [List.all_nil, Bool.true_and]
    congr 1
    rw [decide_eq_decide]
    omega
  | succ d ih =>
    intro i hi
    obtain ⟨c, hc, hb⟩ := drop_bt s i (by omega)
    refine Ev.step (fun k => by rw [impl_isLine.l0]) ?_
    refine Ev.pos (by omega) (Ev.pos (by omega) (Ev.pos (by omega) ?_))
    rw [hb, hc, List.all_cons]
    by_cases h1 : (c.toNat : Int) < 32
    · refine Ev.pos h1 (Ev.k ?_)
      have : chOk c = false := by unfold chOk; simp; omega
      rw [this]; rfl
    · refine Ev.neg h1 ?_
      by_cases h2 : (c.toNat : Int) > 126
      · refine Ev.pos h2 (Ev.k ?_)
        have : chOk c = false := by unfold chOk; simp; omega
        rw [this]; rfl
      · refine Ev.neg h2 ?_
        have : chOk c = true := by unfold chOk; simp; omega
        rw [this, Bool.true_and, wsucc (by omega)]
        exact ih (i + 1) (by omega)
theorem isLine_ev (s : ByteArray) (hm : s.size ≤ 9223372036854775807) : Ev (fun k => impl_isLine.f k s) (lineOk s) := isLine_loop s hm s.size 0 (by omega)
theorem indexBody_loop (l : List ByteArray) (hm : l.length ≤ 9223372036854775807) (hs : ∀ s ∈ l, s.size ≤ 9223372036854775807) : ∀ d i : Nat, i + d = l.length →
    ∃ r, Ev (fun k => slices_IndexFunc_string_string_at114.l0 k l (l.length : Int) (i : Int)) r ∧ (decide (r ≥ 0) = !(l.drop i).all lineOk) := by
  intro d
  induction d with
  | zero =>
    intro i hi
    refine ⟨-1, ?_, ?_⟩
    · refine Ev.step (fun k => by rw [slices_IndexFunc_string_string_at114.l0]) ?_
      exact Ev.neg (by omega) (Ev.ret _)
    · rw [List.drop_of_length_le (by omega)]
      rfl
  | succ d ih =>
    intro i hi
    rw [drop_rd l i (by omega), List.all_cons]
    by_cases h : lineOk (rdOf ByteArray.empty l (i : Int)) = true
    · obtain ⟨r, hr, hd⟩ := ih (i + 1) (by omega)
      refine ⟨r, ?_, by rw [h, Bool.true_and]; exact hd⟩
      refine Ev.step (fun k => by rw [slices_IndexFunc_string_string_at114.l0]) ?_
      refine Ev.pos (by omega) (Ev.pos (by omega) (Ev.pos (by omega) ?_))
      refine Ev.bnd (a := false) (by unfold impl_isBody_1.f; exact Ev.bnd (isLine_ev _ (hs _ (mem_rd l i (by omega)))) (Ev.k (by rw [h]; rfl))) ?_
      refine Ev.neg (by simp) ?_
      rw [wsucc (by omega)]
      exact hr
    · rw [Bool.not_eq_true] at h
      refine ⟨(i : Int), ?_, by rw [h]; simp⟩
      refine Ev.step (fun k => by rw [slices_IndexFunc_string_string_at114.l0]) ?_
      refine Ev.pos (by omega) (Ev.pos (by omega) (Ev.pos (by omega) ?_))
      refine Ev.bnd (a := true) (by unfold impl_isBody_1.f; exact Ev.bnd (isLine_ev _ (hs _ (mem_rd l i (by omega)))) (Ev.k (by rw [h]; rfl))) ?_
      exact Ev.pos rfl (Ev.ret _)
theorem isBody_ev (l : List ByteArray) (hm : l.length ≤ 9223372036854775807) (hs : ∀ s ∈ l, s.size ≤ 9223372036854775807) : Ev (fun k => impl_isBody.f k l) (bodyOk l) := by
  unfold impl_isBody.f
  by_cases h : (l.length : Int) ≤ 12
  · refine Ev.pos h ?_
    obtain ⟨r, hr, hd⟩ := indexBody_loop l hm hs l.length 0 (by omega)
    refine Ev.bnd (a := decide (r ≥ 0)) (by unfold slices_ContainsFunc_string_string_at114.f slices_IndexFunc_string_string_at114.f; exact Ev.bnd hr (Ev.ret _)) (Ev.k ?_)
    rw [hd]
    unfold bodyOk
    have : decide (l.length ≤ 12) = true := by simp; omega
    rw [this]
    simp
  · refine Ev.neg h (Ev.k ?_)
    unfold bodyOk
    have : decide (l.length ≤ 12) = false := by simp; omega
    rw [this]
    simp
theorem lineOk_size {s : ByteArray} (h : lineOk s = true) : s.size ≤ 40 := by
  unfold lineOk at h
  simp at h
  exact h.2
theorem bodyOk_parts {l : List ByteArray} (h : bodyOk l = true) : l.length ≤ 12 ∧ ∀ s ∈ l, s.size ≤ 40 := by
  unfold bodyOk at h
  simp at h
  exact ⟨h.2, fun s hs => lineOk_size (h.1 s hs)⟩
end Go.Proofs.YtjdpdkdhfnpcgaaGreatDoor.Q
namespace Go.Proofs.YtjdpdkdhfnpcgaaGreatDoor.Q
open Go.RowKit Go.Proofs.YtjdpdkdhfnpcgaaGreatDoorW.PrintWords Go.Proofs.YtjdpdkdhfnpcgaaGreatDoorW.PrintLast Go.Proofs.YtjdpdkdhfnpcgaaGreatDoorW.PrintMore
set_option linter.unusedVariables false
set_option linter.unusedSimpArgs false
def addrL (u d : ByteArray) : Bool := wordL (LL u) && domL (LL d)
theorem l1AddrOk_ev (u d : ByteArray) (hu : u.size ≤ 1099511627776) (hd : d.size ≤ 1099511627776) : Ev (fun k => spec_l1AddrOk.f k u d) (addrL u d) := by
  unfold spec_l1AddrOk.f addrL
  refine Ev.bnd (l1Word_ev u (by omega)) ?_
  by_cases h : wordL (LL u) = true
  · refine Ev.pos h (Ev.bnd (l1Domain_ev d hd) (Ev.eq (Ev.ret _) ?_))
    rw [h, Bool.true_and]
  · refine Ev.neg h (Ev.eq (Ev.ret _) ?_)
    rw [Bool.not_eq_true] at h
    rw [h, Bool.false_and]
theorem implAddrOk_ev (u d : ByteArray) (hu : u.size ≤ 4294967280) (hd : d.size ≤ 4294967280) : Ev (fun k => impl_AddrOk.f k u d) (addrL u d) := by
  unfold impl_AddrOk.f addrL
  refine Ev.bnd (Ev.k (isLabel_f u (by omega))) ?_
  by_cases h : wordL (LL u) = true
  · refine Ev.pos h (Ev.bnd (implDomainOk_ev d hd) (Ev.eq (Ev.ret _) ?_))
    rw [h, Bool.true_and]
  · refine Ev.neg h (Ev.eq (Ev.ret _) ?_)
    rw [Bool.not_eq_true] at h
    rw [h, Bool.false_and]
theorem toList_nil (s : ByteArray) : (s.toList == ([] : List UInt8)) = decide (s = ⟨#[]⟩) := by
  rw [Bool.eq_iff_iff, beq_iff_eq, decide_eq_true_eq, toList_BB]
def nullA (u d : ByteArray) : Bool := decide (u = ⟨#[]⟩) && decide (d = ⟨#[]⟩)
theorem null_f (u d : ByteArray) : impl_Addr_null.f u d = some (nullA u d) := by
  unfold impl_Addr_null.f nullA
  rw [toList_nil, toList_nil]
theorem l1Null_f (u d : ByteArray) : spec_l1Null.f u d = some (nullA u d) := by
  unfold spec_l1Null.f nullA
  by_cases h : u = ⟨#[]⟩
  · rw [if_pos (toList_BB.2 h), toList_nil, h]
    simp
  · rw [if_neg (fun e => h (toList_BB.1 e))]
    simp [h]
def textL (u d : List UInt8) : List UInt8 := 60 :: (u ++ 64 :: (d ++ [62]))
def textA (u d : ByteArray) : ByteArray := if nullA u d = true then ⟨#[60, 62]⟩ else BB (textL (LL u) (LL d))
theorem text_cat (u d : ByteArray) : ((((⟨#[60]⟩ : ByteArray) ++ u) ++ (⟨#[64]⟩ : ByteArray)) ++ d) ++ (⟨#[62]⟩ : ByteArray) = BB (textL (LL u) (LL d)) := by
  apply LL_inj
  rw [LL_append, LL_append, LL_append, LL_append]
  unfold textL
  rw [LL_BB, List.append_assoc, List.append_assoc, List.append_assoc]
  rfl
theorem l1Put_f (u d : ByteArray) (hu : u.size ≤ 1099511627776) (hd : d.size ≤ 1099511627776) : spec_l1Put.f u d = some (textA u d) := by
  unfold spec_l1Put.f textA
  rw [l1Null_f]
  simp only [Option.bind_some]
  have s1 : (⟨#[60]⟩ : ByteArray).size = 1 := rfl
  have s2 : (⟨#[64]⟩ : ByteArray).size = 1 := rfl
  by_cases h : nullA u d = true
  · rw [if_pos h, if_pos h]
  · rw [if_neg h, if_neg h, if_pos (by omega), if_pos (by rw [size_append]; omega), if_pos (by rw [size_append, size_append]; omega), if_pos (by rw [size_append, size_append, size_append]; omega), text_cat]
theorem text_f (u d : ByteArray) (hu : u.size ≤ 1099511627776) (hd : d.size ≤ 1099511627776) : impl_Addr_text.f u d = some (textA u d) := by
  unfold impl_Addr_text.f textA
  rw [null_f]
  simp only [Option.bind_some]
  have s1 : (⟨#[60]⟩ : ByteArray).size = 1 := rfl
  have s2 : (⟨#[64]⟩ : ByteArray).size = 1 := rfl
  by_cases h : nullA u d = true
  · rw [if_pos h, if_pos h]
  · rw [if_neg h, if_neg h, if_pos (by omega), if_pos (by rw [size_append]; omega), if_pos (by rw [size_append, size_append]; omega), if_pos (by rw [size_append, size_append, size_append]; omega), text_cat]
def senderA (u d : ByteArray) : Bool := nullA u d || addrL u d
theorem sender_ev (u d : ByteArray) (hu : u.size ≤ 4294967280) (hd : d.size ≤ 4294967280) : Ev (fun k => impl_Addr_sender.f k u d) (senderA u d) := by
  unfold impl_Addr_sender.f senderA
  refine Ev.bnd (Ev.k (null_f u d)) ?_
  by_cases h : nullA u d = true
  · refine Ev.pos h (Ev.eq (Ev.ret _) ?_)
    rw [h, Bool.true_or]
  · refine Ev.neg h (Ev.bnd (implAddrOk_ev u d hu hd) (Ev.eq (Ev.ret _) ?_))
    rw [Bool.not_eq_true] at h
    rw [h, Bool.false_or]
theorem nullA_eq {u d : ByteArray} (h : nullA u d = true) : u = ⟨#[]⟩ ∧ d = ⟨#[]⟩ := by
  unfold nullA at h
  simpa only [Bool.and_eq_true, decide_eq_true_eq] using h
end Go.Proofs.YtjdpdkdhfnpcgaaGreatDoor.Q
namespace Go.Proofs.YtjdpdkdhfnpcgaaGreatDoor.Q
open Go.RowKit Go.Proofs.YtjdpdkdhfnpcgaaGreatDoorW.PrintWords Go.Proofs.YtjdpdkdhfnpcgaaGreatDoorW.PrintLast Go.Proofs.YtjdpdkdhfnpcgaaGreatDoorW.PrintMore
set_option linter.unusedVariables false
set_option linter.unusedSimpArgs false
abbrev IA := S24
section
variable {f g : Nat → Option Bool} {a b : Bool}
theorem Ev.and (hf : Ev f a) (hg : Ev g b) : Ev (fun k => (f k).bind fun t => if t = true then g k else some false) (a && b) := by
  cases a with
  | true => exact Ev.bnd hf (Ev.pos rfl (Ev.eq hg (Bool.true_and b).symm))
  | false => exact Ev.bnd hf (Ev.neg (by simp) (Ev.eq (Ev.ret _) (Bool.false_and b).symm))
theorem Ev.ifand {c : Prop} [Decidable c] (hg : Ev g b) : Ev (fun k => if c then g k else some false) (decide c && b) := by
  by_cases h : c
  · exact Ev.pos h (Ev.eq hg (by rw [decide_eq_true h, Bool.true_and]))
  · exact Ev.neg h (Ev.eq (Ev.ret _) (by rw [decide_eq_false h, Bool.false_and]))
theorem Ev.fwd (hg : Ev g b) : Ev (fun k => (g k).bind fun t => some t) b := Ev.bnd hg (Ev.ret _)
end
theorem rdIA (l : List IA) (i : Nat) (h : i < l.length) : rd_T24 l (i : Int) = l[i] := dRd l i h
def addrA (x : IA) : Bool := addrL x.f0 x.f1
def inB (a b c : Int) : Bool := decide (b ≤ a ∧ a ≤ c)
def restM (u d : ByteArray) (n : Nat) (body : List ByteArray) : Bool := senderA u d && (inB n 1 4 && bodyOk body)
def mailL (u d : ByteArray) (tos : List IA) (body : List ByteArray) : Bool := (tos.all addrA && decide (pairsA tos).Nodup) && restM u d tos.length body
def MailB (u d : ByteArray) (tos : List IA) (body : List ByteArray) : Prop := u.size ≤ 1048576 ∧ d.size ≤ 1048576 ∧ (tos.length ≤ 1048576 ∧ ∀ x ∈ tos, x.f0.size ≤ 1048576 ∧ x.f1.size ≤ 1048576) ∧ body.length ≤ 1048576 ∧ ∀ s ∈ body, s.size ≤ 1048576
theorem pair_eq (x y : IA) : (x.f0.toList == y.f0.toList && (x.f1.toList == y.f1.toList)) = true ↔ (x.f0, x.f1) = (y.f0, y.f1) := by
  rw [toList_beq, toList_beq, Bool.and_eq_true, decide_eq_true_eq, decide_eq_true_eq, Prod.mk.injEq]
theorem pairsA_get (tos : List IA) (i : Nat) (h : i < tos.length) : (pairsA tos).drop i = (tos[i].f0, tos[i].f1) :: (pairsA tos).drop (i + 1) := by
  unfold pairsA
  rw [List.drop_eq_getElem_cons (by rw [List.length_map]; exact h), List.getElem_map]
theorem pairsA_len (tos : List IA) : (pairsA tos).length = tos.length := by unfold pairsA; rw [List.length_map]
section
variable {u d : ByteArray} {tos : List IA} {body : List ByteArray} (hB : MailB u d tos body)
include hB
theorem l2Ok_hit (i : Nat) (hi : i < tos.length) : ∀ m j : Nat, j + m = i → (tos[i].f0, tos[i].f1) ∈ ((pairsA tos).drop j).take m → Ev (fun k => spec_l2Ok.l1 k (i : Int) (j : Int) u d tos body) false := by
  have hl := hB.2.2.1.1
  intro m
  induction m with
  | zero => intro j hj hc; rw [List.take_zero] at hc; cases hc
  | succ m ih =>
    intro j hj hc
    have hjl : j < tos.length := by omega
    refine Ev.step (fun k => by rw [spec_l2Ok.l1]) (Ev.pos (by omega) (Ev.pos (by omega) (Ev.pos (by omega) (Ev.pos (by omega) (Ev.pos (by omega) ?_)))))
    rw [pairsA_get tos j hjl, List.take_succ_cons] at hc
    rw [rdIA tos j hjl, rdIA tos i hi, wsucc (by omega)]
    by_cases h : (tos[j].f0, tos[j].f1) = (tos[i].f0, tos[i].f1)
    · exact Ev.pos ((pair_eq _ _).2 h) (Ev.ret _)
    · refine Ev.neg (fun q => h ((pair_eq _ _).1 q)) (ih (j + 1) (by omega) ?_)
      rcases List.mem_cons.1 hc with e | e
      · exact absurd e.symm h
      · exact e
theorem l2Ok_miss (i : Nat) (hi : i < tos.length) (r : Bool) (hr : Ev (fun k => spec_l2Ok.l0 k ((i + 1 : Nat) : Int) u d tos body) r) : ∀ m j : Nat, j + m = i → (tos[i].f0, tos[i].f1) ∉ ((pairsA tos).drop j).take m →
    Ev (fun k => spec_l2Ok.l1 k (i : Int) (j : Int) u d tos body) r := by
  have hl := hB.2.2.1.1
  intro m
  induction m with
  | zero =>
    intro j hj _
    refine Ev.step (fun k => by rw [spec_l2Ok.l1]) (Ev.neg (by omega) ?_)
    rw [wsucc (by omega)]
    exact hr
  | succ m ih =>
    intro j hj hc
    have hjl : j < tos.length := by omega
    refine Ev.step (fun k => by rw [spec_l2Ok.l1]) (Ev.pos (by omega) (Ev.pos (by omega) (Ev.pos (by omega) (Ev.pos (by omega) (Ev.pos (by omega) ?_)))))
    rw [pairsA_get tos j hjl, List.take_succ_cons] at hc
    rw [rdIA tos j hjl, rdIA tos i hi, wsucc (by omega)]
    exact Ev.neg (fun q => hc (by rw [(pair_eq _ _).1 q]; exact List.mem_cons_self ..)) (ih (j + 1) (by omega) (fun q => hc (List.mem_cons_of_mem _ q)))
theorem l2Ok_l0 : ∀ m i : Nat, i + m = tos.length → ((pairsA tos).take i).Nodup → Ev (fun k => spec_l2Ok.l0 k (i : Int) u d tos body) (((tos.drop i).all addrA && decide (pairsA tos).Nodup) && restM u d tos.length body) := by
  obtain ⟨h0, h1, ⟨h2, h3⟩, h4, h5⟩ := hB
  have hB : MailB u d tos body := ⟨h0, h1, ⟨h2, h3⟩, h4, h5⟩
  intro m
  induction m with
  | zero =>
    intro i hi hn
    rw [List.take_of_length_le (by rw [pairsA_len]; omega)] at hn
    rw [List.drop_of_length_le (by omega), List.all_nil, Bool.true_and, decide_eq_true hn, Bool.true_and]
    refine Ev.step (fun k => by rw [spec_l2Ok.l0]) (Ev.neg (by omega) (Ev.bnd (l1AddrOk_ev u d (by omega) (by omega)) ?_))
    have hin : Ev (fun k => (spec_l1In.f (tos.length : Int) 1 4).bind fun t => if t = true then ((spec_l2BodyOk.f k body).bind fun t => some t) else some false) (inB tos.length 1 4 && bodyOk body) :=
      Ev.and (Ev.k (l1In_ev _ _ _)) (Ev.fwd (l2BodyOk_ev body (by omega) (fun s hs => by have := h5 s hs; omega)))
    unfold restM senderA
    by_cases ha : addrL u d = true
    · exact Ev.pos ha (Ev.eq hin (by rw [ha, Bool.or_true, Bool.true_and]))
    · rw [Bool.not_eq_true] at ha
      refine Ev.neg (by rw [ha]; simp) (Ev.eq (Ev.and (Ev.k (l1Null_f u d)) hin) ?_)
      rw [ha, Bool.or_false]
  | succ m ih =>
    intro i hi hn
    have hil : i < tos.length := by omega
    obtain ⟨z0, z1⟩ := h3 _ (List.getElem_mem hil)
    refine Ev.step (fun k => by rw [spec_l2Ok.l0]) (Ev.pos (by omega) (Ev.pos (by omega) ?_))
    rw [rdIA tos i hil, List.drop_eq_getElem_cons hil, List.all_cons]
    refine Ev.bnd (l1AddrOk_ev _ _ (by omega) (by omega)) ?_
    have e : addrA tos[i] = addrL tos[i].f0 tos[i].f1 := rfl
    rw [e]
    by_cases ha : addrL tos[i].f0 tos[i].f1 = true
    · rw [ha, Bool.true_and]
      refine Ev.pos rfl ?_
      have ht : (pairsA tos).take (i + 1) = (pairsA tos).take i ++ [(tos[i].f0, tos[i].f1)] := by
        rw [List.take_succ_eq_append_getElem (by rw [pairsA_len]; exact hil)]
        unfold pairsA
        rw [List.getElem_map]
      by_cases hc : (tos[i].f0, tos[i].f1) ∈ (pairsA tos).take i
      · -- met before
        have hno : ¬ (pairsA tos).Nodup := fun q => by
          have q2 : ((pairsA tos).take (i + 1)).Nodup := q.sublist (List.take_sublist _ _)
          rw [ht, List.nodup_append] at q2
          exact q2.2.2 _ hc _ (List.mem_singleton.2 rfl) rfl
        refine Ev.eq (l2Ok_hit hB i hil i 0 (by omega) (by rw [List.drop_zero]; exact hc)) ?_
        rw [decide_eq_false hno, Bool.and_false, Bool.false_and]
      · have hn2 : ((pairsA tos).take (i + 1)).Nodup := by
          rw [ht, List.nodup_append]
          refine ⟨hn, by simp, fun a ha b hb => ?_⟩
          rw [List.mem_singleton.1 hb]
          rintro rfl
          exact hc ha
        exact l2Ok_miss hB i hil _ (ih (i + 1) (by omega) hn2) i 0 (by omega) (by rw [List.drop_zero]; exact hc)
    · rw [Bool.not_eq_true] at ha
      rw [ha, Bool.false_and, Bool.false_and, Bool.false_and]
      exact Ev.neg (by simp) (Ev.ret _)
theorem l2Ok_ev : Ev (fun k => spec_l2Ok.f k u d tos body) (mailL u d tos body) := by
  have := l2Ok_l0 hB tos.length 0 (by omega) (by simp)
  rw [List.drop_zero] at this
  exact this
theorem addrIndex_loop : ∀ m i : Nat, i + m = tos.length → ∃ r, Ev (fun k => slices_IndexFunc_impl_Addr_impl_Addr_at65.l0 k tos (tos.length : Int) (i : Int)) r ∧ (decide (r ≥ 0) = !(tos.drop i).all addrA) := by
  obtain ⟨h0, h1, ⟨h2, h3⟩, h4, h5⟩ := hB
  intro m
  induction m with
  | zero =>
    intro i hi
    refine ⟨-1, Ev.step (fun k => by rw [slices_IndexFunc_impl_Addr_impl_Addr_at65.l0]) (Ev.neg (by omega) (Ev.ret _)), ?_⟩
    rw [List.drop_of_length_le (by omega)]
    rfl
  | succ m ih =>
    intro i hi
    have hil : i < tos.length := by omega
    obtain ⟨z0, z1⟩ := h3 _ (List.getElem_mem hil)
    have hc : Ev (fun k => impl_MailOk_1.f k tos[i].f0 tos[i].f1) (!addrA tos[i]) := Ev.bnd (implAddrOk_ev _ _ (by omega) (by omega)) (Ev.ret _)
    rw [List.drop_eq_getElem_cons hil, List.all_cons]
    by_cases h : addrA tos[i] = true
    · obtain ⟨r, hr, hd⟩ := ih (i + 1) (by omega)
      rw [h] at hc
      refine ⟨r, Ev.step (fun k => by rw [slices_IndexFunc_impl_Addr_impl_Addr_at65.l0]) (Ev.pos (by omega) (Ev.pos (by omega) (Ev.pos (by omega) ?_))), by rw [h, Bool.true_and]; exact hd⟩
      rw [rdIA tos i hil]
      refine Ev.bnd hc (Ev.neg (by simp) ?_)
      rw [wsucc (by omega)]
      exact hr
    · rw [Bool.not_eq_true] at h
      rw [h] at hc
      refine ⟨(i : Int), Ev.step (fun k => by rw [slices_IndexFunc_impl_Addr_impl_Addr_at65.l0]) (Ev.pos (by omega) (Ev.pos (by omega) (Ev.pos (by omega) ?_))), by rw [h, Bool.false_and]; exact decide_eq_true (by omega)⟩
      rw [rdIA tos i hil]
      exact Ev.bnd hc (Ev.pos rfl (Ev.ret _))
theorem implMailOk_ev : Ev (fun k => impl_MailOk.f k u d tos body) (mailL u d tos body) := by
  obtain ⟨r, hr, hd⟩ := addrIndex_loop hB tos.length 0 (by omega)
  rw [List.drop_zero] at hd
  obtain ⟨h0, h1, ⟨h2, h3⟩, h4, h5⟩ := hB
  have hc : Ev (fun k => slices_ContainsFunc_impl_Addr_impl_Addr_at65.f k tos) (!tos.all addrA) := by
    have hr' : Ev (fun k => slices_IndexFunc_impl_Addr_impl_Addr_at65.f k tos) r := hr
    rw [← hd]
    exact Ev.bnd hr' (Ev.ret _)
  have hdi : impl_distinct_impl_Addr.f tos = some (decide (pairsA tos).Nodup) := by
    unfold impl_distinct_impl_Addr.f maxLen
    rw [if_pos ⟨fun x hx => by have := h3 x hx; omega, by omega⟩]
  have hin : Ev (fun k => (impl_within.f (tos.length : Int) 1 4)) (inB tos.length 1 4) := Ev.k (within_ev _ _ _)
  have hl : Ev (fun k => ((slices_ContainsFunc_impl_Addr_impl_Addr_at65.f k tos).bind fun t109 => (if t109 = true then (some false) else ((impl_distinct_impl_Addr.f tos).bind fun t110 => (if t110 = true then ((impl_isBody.f k body).bind fun t111 => (some t111)) else (some false)))))) (tos.all addrA && (decide (pairsA tos).Nodup && bodyOk body)) := by
    refine Ev.bnd hc ?_
    by_cases ha : tos.all addrA = true
    · rw [ha, Bool.true_and]
      exact Ev.neg (by simp) (Ev.and (Ev.k hdi) (Ev.fwd (isBody_ev body (by omega) (fun s hs => by have := h5 s hs; omega))))
    · rw [Bool.not_eq_true] at ha
      rw [ha, Bool.false_and]
      exact Ev.pos rfl (Ev.ret _)
  unfold impl_MailOk.f
  refine Ev.eq (Ev.and (sender_ev u d (by omega) (by omega)) (Ev.and hin hl)) ?_
  unfold mailL restM
  generalize senderA u d = a
  generalize inB (tos.length : Int) 1 4 = b
  generalize tos.all addrA = c
  generalize decide (pairsA tos).Nodup = e
  generalize bodyOk body = f
  cases a <;> cases b <;> cases c <;> cases e <;> cases f <;> rfl
end
end Go.Proofs.YtjdpdkdhfnpcgaaGreatDoor.Q
namespace Go.Proofs.YtjdpdkdhfnpcgaaGreatDoor.Q
open Go.RowKit Go.Proofs.YtjdpdkdhfnpcgaaGreatDoorW.PrintWords Go.Proofs.YtjdpdkdhfnpcgaaGreatDoorW.PrintLast Go.Proofs.YtjdpdkdhfnpcgaaGreatDoorW.PrintMore
set_option linter.unusedVariables false
def bareM (u d : ByteArray) (tos : List IA) (body : List ByteArray) : Bool := nullA u d && (decide ((tos.length : Int) = 0) && decide ((body.length : Int) = 0))
def noteL (kind id : Int) (u d : ByteArray) (now : Int) (fu fd : ByteArray) (tos : List IA) (body : List ByteArray) : Bool :=
  if kind = 1 then decide (id = 0) && (nullA u d && (mailL fu fd tos body && inB now 0 9999))
  else if kind = 2 then bareM fu fd tos body && (inB id 1 999 && (addrL u d && decide (now = 0)))
  else if kind = 3 then bareM fu fd tos body && (inB id 1 999 && (addrL u d && inB now 0 9999))
  else false
section
variable (kind id : Int) (u d : ByteArray) (now : Int) {fu fd : ByteArray} {tos : List IA} {body : List ByteArray}
theorem l6_j0 (hu : u.size ≤ 1048576) (hd : d.size ≤ 1048576) (hB : MailB fu fd tos body) : Ev (fun k => spec_l6Ok.j0 k (bareM fu fd tos body) kind id u d now fu fd tos body) (noteL kind id u d now fu fd tos body) := by
  have hin : ∀ a b c : Int, Ev (fun _ => spec_l1In.f a b c) (inB a b c) := fun a b c => Ev.k (l1In_ev a b c)
  have ha := l1AddrOk_ev u d (by omega) (by omega)
  unfold noteL
  refine Ev.step (fun k => by rw [spec_l6Ok.j0]) ?_
  by_cases h1 : kind = 1
  · refine Ev.eq (Ev.pos h1 (Ev.ifand (Ev.and (Ev.k (l1Null_f u d)) (Ev.and (l2Ok_ev hB) (Ev.fwd (hin _ _ _)))))) (if_pos h1).symm
  · by_cases h2 : kind = 2
    · refine Ev.eq (Ev.neg h1 (Ev.pos h2 ?_)) (by rw [if_neg h1, if_pos h2])
      have : Ev (fun k => if bareM fu fd tos body = true then ((spec_l1In.f id 1 999).bind fun t => if t = true then ((spec_l1AddrOk.f k u d).bind fun t => if t = true then some (now == 0) else some false) else some false) else some false) (decide (bareM fu fd tos body = true) && (inB id 1 999 && (addrL u d && (now == 0)))) :=
        Ev.ifand (Ev.and (hin _ _ _) (Ev.and ha (Ev.ret _)))
      refine Ev.eq this ?_
      rw [show decide (bareM fu fd tos body = true) = bareM fu fd tos body by simp]
      rfl
    · by_cases h3 : kind = 3
      · refine Ev.eq (Ev.neg h1 (Ev.neg h2 (Ev.pos h3 ?_))) (by rw [if_neg h1, if_neg h2, if_pos h3])
        have : Ev (fun k => if bareM fu fd tos body = true then ((spec_l1In.f id 1 999).bind fun t => if t = true then ((spec_l1AddrOk.f k u d).bind fun t => if t = true then ((spec_l1In.f now 0 9999).bind fun t => some t) else some false) else some false) else some false) (decide (bareM fu fd tos body = true) && (inB id 1 999 && (addrL u d && inB now 0 9999))) :=
          Ev.ifand (Ev.and (hin _ _ _) (Ev.and ha (Ev.fwd (hin _ _ _))))
        refine Ev.eq this ?_
        rw [show decide (bareM fu fd tos body = true) = bareM fu fd tos body by simp]
      · exact Ev.eq (Ev.neg h1 (Ev.neg h2 (Ev.neg h3 (Ev.ret _)))) (by rw [if_neg h1, if_neg h2, if_neg h3])
theorem l6Ok_ev (hu : u.size ≤ 1048576) (hd : d.size ≤ 1048576) (hB : MailB fu fd tos body) : Ev (fun k => spec_l6Ok.f k kind id u d now fu fd tos body) (noteL kind id u d now fu fd tos body) := by
  have hj := l6_j0 kind id u d now hu hd hB
  unfold spec_l6Ok.f
  refine Ev.bnd (Ev.k (l1Null_f fu fd)) ?_
  unfold bareM at hj
  by_cases h1 : nullA fu fd = true
  · refine Ev.pos h1 ?_
    rw [h1, Bool.true_and] at hj
    by_cases h2 : (tos.length : Int) = 0
    · refine Ev.pos h2 ?_
      rw [decide_eq_true h2, Bool.true_and] at hj
      exact hj
    · refine Ev.neg h2 ?_
      rw [decide_eq_false h2, Bool.false_and] at hj
      exact hj
  · refine Ev.neg h1 ?_
    rw [Bool.not_eq_true] at h1
    rw [h1, Bool.false_and] at hj
    exact hj
theorem implNoteOk_ev (hu : u.size ≤ 1048576) (hd : d.size ≤ 1048576) (hB : MailB fu fd tos body) : Ev (fun k => impl_NoteOk.f k kind id u d now fu fd tos body) (noteL kind id u d now fu fd tos body) := by
  have hin : ∀ a b c : Int, Ev (fun _ => impl_within.f a b c) (inB a b c) := fun a b c => Ev.k (within_ev a b c)
  have ha := implAddrOk_ev u d (by omega) (by omega)
  have ht : Ev (fun _ => impl_isTime.f now) (inB now 0 9999) := Ev.fwd (hin _ _ _)
  have hb : Ev (fun _ => impl_Mail_empty.f fu fd tos body) (bareM fu fd tos body) := Ev.and (Ev.k (null_f fu fd)) (Ev.ifand (Ev.ret _))
  have hj : ∀ x : Bool, x = (inB id 1 999 && (addrL u d && bareM fu fd tos body)) → Ev (fun k => impl_NoteOk.j0 k x kind id u d now fu fd tos body) (noteL kind id u d now fu fd tos body) := by
    intro x hx
    unfold noteL
    refine Ev.step (fun k => by rw [impl_NoteOk.j0]) ?_
    by_cases h1 : kind = 1
    · refine Ev.eq (Ev.pos h1 (Ev.and (implMailOk_ev hB) (Ev.and ht (Ev.ifand (Ev.fwd (Ev.k (null_f u d))))))) ?_
      rw [if_pos h1]
      generalize mailL fu fd tos body = a
      generalize inB now 0 9999 = b
      generalize decide (id = 0) = c
      generalize nullA u d = e
      cases a <;> cases b <;> cases c <;> cases e <;> rfl
    · by_cases h2 : kind = 2
      · refine Ev.eq (Ev.neg h1 (Ev.pos h2 (Ev.ifand (Ev.ret _)))) ?_
        rw [if_neg h1, if_pos h2, show decide (x = true) = x by simp, hx, show (now == 0) = decide (now = 0) from rfl]
        generalize inB id 1 999 = a
        generalize addrL u d = b
        generalize bareM fu fd tos body = c
        generalize decide (now = 0) = e
        cases a <;> cases b <;> cases c <;> cases e <;> rfl
      · by_cases h3 : kind = 3
        · refine Ev.eq (Ev.neg h1 (Ev.neg h2 (Ev.pos h3 (Ev.ifand (Ev.fwd ht))))) ?_
          rw [if_neg h1, if_neg h2, if_pos h3, show decide (x = true) = x by simp, hx]
          generalize inB id 1 999 = a
          generalize addrL u d = b
          generalize bareM fu fd tos body = c
          generalize inB now 0 9999 = e
          cases a <;> cases b <;> cases c <;> cases e <;> rfl
        · exact Ev.eq (Ev.neg h1 (Ev.neg h2 (Ev.neg h3 (Ev.ret _)))) (by rw [if_neg h1, if_neg h2, if_neg h3])
  unfold impl_NoteOk.f
  refine Ev.bnd (hin _ _ _) ?_
  by_cases q1 : inB id 1 999 = true
  · refine Ev.pos q1 (Ev.bnd ha ?_)
    by_cases q2 : addrL u d = true
    · exact Ev.pos q2 (Ev.bnd hb (hj _ (by rw [q1, q2]; rfl)))
    · rw [Bool.not_eq_true] at q2
      exact Ev.neg (by rw [q2]; simp) (hj _ (by rw [q2, Bool.false_and, Bool.and_false]))
  · rw [Bool.not_eq_true] at q1
    exact Ev.neg (by rw [q1]; simp) (hj _ (by rw [q1, Bool.false_and]))
end
end Go.Proofs.YtjdpdkdhfnpcgaaGreatDoor.Q
namespace Go.Proofs.YtjdpdkdhfnpcgaaGreatDoor.Q
open Go.RowKit Go.Proofs.YtjdpdkdhfnpcgaaGreatDoorW.PrintWords Go.Proofs.YtjdpdkdhfnpcgaaGreatDoorW.PrintLast Go.Proofs.YtjdpdkdhfnpcgaaGreatDoorW.PrintMore
set_option linter.unusedVariables false
set_option linter.unusedSimpArgs false
def dots (ls : List ByteArray) : List UInt8 := dotLines ls ++ [46, 13, 10]
theorem hasPrefix_dot (l : List UInt8) : Lib.hasPrefix l [46] = true ↔ ∃ t, l = 46 :: t := by
  cases l with
  | nil => simp [Lib.hasPrefix]
  | cons c t => simp [Lib.hasPrefix, List.isPrefixOf]; exact eq_comm
theorem dotLine_le (l : List UInt8) : (dotLine l).length ≤ l.length + 3 := by
  unfold dotLine
  split <;> simp <;> omega
theorem dotLines_cons (s : ByteArray) (ls : List ByteArray) : dotLines (s :: ls) = dotLine (LL s) ++ dotLines ls := by
  unfold dotLines
  rw [List.flatMap_cons]
theorem dotLines_bound (ls : List ByteArray) (b : Nat) (h : ∀ s ∈ ls, s.size ≤ b) : (dotLines ls).length ≤ ls.length * (b + 3) := by
  induction ls with
  | nil => simp [dotLines]
  | cons s ls ih =>
    rw [dotLines_cons, List.length_append, List.length_cons, Nat.add_mul, Nat.one_mul]
    have h1 := dotLine_le (LL s)
    have h2 := h s (List.mem_cons_self ..)
    rw [size_LL] at h2
    have h3 := ih (fun t ht => h t (List.mem_cons_of_mem _ ht))
    omega
theorem l2Dots_loop (ls : List ByteArray) (hl : ls.length ≤ 1099511627776) (hb : (dotLines ls).length ≤ 1099511627776) : ∀ d i : Nat, i + d = ls.length → ∀ x : ByteArray, LL x = dotLines (ls.take i) →
    Ev (fun k => spec_l2Dots.l0 k ls x (i : Int)) (BB (dots ls)) := by
  intro d
  induction d with
  | zero =>
    intro i hi x hx
    rw [List.take_of_length_le (by omega)] at hx
    have hxs : x.size ≤ 1099511627776 := by rw [size_LL, hx]; exact hb
    refine Ev.step (fun k => by rw [spec_l2Dots.l0]) ?_
    refine Ev.neg (by omega) ?_
    refine Ev.pos (by omega) ?_
    refine Ev.k ?_
    congr 1
    exact LL_inj (by rw [LL_append, hx, LL_BB]; rfl)
  | succ d ih =>
    intro i hi x hx
    have ht := dotLines_take ls i (by omega)
    have hle := dotLines_le ls (i + 1)
    have hg : ls.getD i ByteArray.empty = rdOf ByteArray.empty ls (i : Int) := by unfold rdOf; rw [Int.toNat_natCast]
    rw [hg] at ht
    rw [ht, List.length_append] at hle
    have hxs : x.size = (dotLines (ls.take i)).length := by rw [size_LL, hx]
    have hd2 : (rdOf ByteArray.empty ls (i : Int)).data.toList.length + 2 ≤ (dotLine (rdOf ByteArray.empty ls (i : Int)).data.toList).length := by
      unfold dotLine
      simp only [List.length_append, List.length_cons, List.length_nil]
      omega
    have hsz : (rdOf ByteArray.empty ls (i : Int)).size = (rdOf ByteArray.empty ls (i : Int)).data.toList.length := size_LL _
    generalize hline : rdOf ByteArray.empty ls (i : Int) = line at *
    refine Ev.step (fun k => by rw [spec_l2Dots.l0]) ?_
    rw [hline]
    refine Ev.pos (by omega) ?_
    refine Ev.pos (by omega) ?_
    rw [wsucc (by omega)]
    by_cases h1 : line.toList = []
    · refine Ev.pos h1 ?_
      refine Ev.pos (by omega) ?_
      refine Ev.pos (by rw [size_append]; omega) ?_
      refine ih (i + 1) (by omega) _ ?_
      rw [LL_append, LL_append, hx, ht]
      rw [toList_LL] at h1
      have : dotLine line.data.toList = [13, 10] := by
        unfold dotLine
        rw [show line.data.toList = [] from h1]
        rfl
      rw [this, h1, List.append_nil]
    · refine Ev.neg h1 ?_
      rw [toList_LL] at h1
      have hpos : 0 < line.size := by
        rw [size_LL]
        exact List.length_pos_iff.2 h1
      refine Ev.pos (by omega) ?_
      obtain ⟨c, hc, hcb⟩ := bt_get line 0 hpos
      have hcons : ∃ t, LL line = c :: t := by
        cases hh : LL line with
        | nil => exact absurd hh h1
        | cons a t => rw [hh] at hc; simp at hc; subst hc; exact ⟨t, rfl⟩
      obtain ⟨t, hct⟩ := hcons
      rw [show (0 : Int) = ((0 : Nat) : Int) from rfl, hcb]
      by_cases h2 : (c.toNat : Int) = 46
      · have e46 : c = 46 := u8_ext (by simp; omega)
        subst e46
        have hp : Lib.hasPrefix line.data.toList [46] = true := (hasPrefix_dot _).2 ⟨t, hct⟩
        have hdl : dotLine line.data.toList = [46] ++ (line.data.toList ++ [13, 10]) := by unfold dotLine; rw [if_pos hp]
        have hlen : (dotLine line.data.toList).length = line.size + 3 := by rw [hdl, hsz]; simp only [List.length_append, List.length_cons, List.length_nil]; omega
        refine Ev.pos h2 ?_
        refine Ev.pos (by omega) ?_
        refine Ev.pos (by rw [size_append, sz1]; omega) ?_
        refine Ev.pos (by rw [size_append, size_append, sz1]; omega) ?_
        refine ih (i + 1) (by omega) _ ?_
        rw [LL_append, LL_append, LL_append, hx, ht, hdl]
        simp only [List.append_assoc]
      · have hp : ¬ Lib.hasPrefix line.data.toList [46] = true := by
          rw [hasPrefix_dot]
          rintro ⟨t', ht'⟩
          rw [show line.data.toList = c :: t from hct] at ht'
          injection ht' with h3 _
          subst h3
          exact h2 rfl
        have hdl : dotLine line.data.toList = line.data.toList ++ [13, 10] := by unfold dotLine; rw [if_neg hp]; rfl
        refine Ev.neg h2 ?_
        refine Ev.pos (by omega) ?_
        refine Ev.pos (by rw [size_append]; omega) ?_
        refine ih (i + 1) (by omega) _ ?_
        rw [LL_append, LL_append, hx, ht, hdl]
        simp only [List.append_assoc]
theorem l2Dots_ev (ls : List ByteArray) (hl : ls.length ≤ 1099511627776) (hb : (dotLines ls).length ≤ 1099511627776) : Ev (fun k => spec_l2Dots.f k ls) (BB (dots ls)) := by
  unfold spec_l2Dots.f
  exact l2Dots_loop ls hl hb ls.length 0 (by omega) _ rfl
theorem dotted_eq (ls : List ByteArray) (hb : (dotLines ls).length ≤ 1099511627776) : impl_dotted.f ls = some (BB (dots ls)) := by
  unfold impl_dotted.f
  rw [if_pos hb]
  rfl
theorem bodyOk_dots {ls : List ByteArray} (h : bodyOk ls = true) : (dotLines ls).length ≤ 516 := by
  obtain ⟨h1, h2⟩ := bodyOk_parts h
  have := dotLines_bound ls 40 h2
  omega
end Go.Proofs.YtjdpdkdhfnpcgaaGreatDoor.Q
namespace Go.Proofs.YtjdpdkdhfnpcgaaGreatDoor.Q
open Go.RowKit Go.Proofs.YtjdpdkdhfnpcgaaGreatDoorW.PrintWords Go.Proofs.YtjdpdkdhfnpcgaaGreatDoorW.PrintLast Go.Proofs.YtjdpdkdhfnpcgaaGreatDoorW.PrintMore
set_option linter.unusedVariables false
theorem cuts_bound (c : UInt8) (m : Nat) : ∀ (n : Nat) (l : List UInt8), (∀ p ∈ cuts c n l, p.length ≤ m) → l.length + 1 ≤ (m + 1) * (cuts c n l).length := by
  intro n
  induction n with
  | zero =>
    intro l h
    have := h l (List.mem_singleton.2 rfl)
    rw [show (cuts c 0 l).length = 1 from rfl]
    omega
  | succ n ih =>
    intro l h
    rcases index1_cases l c with hi | ⟨i, hi, hil⟩
    · rw [cuts_none hi] at h ⊢
      have := h l (List.mem_singleton.2 rfl)
      rw [show [l].length = 1 from rfl]
      omega
    · rw [cuts_at hi] at h ⊢
      have h1 := h _ (List.mem_cons_self ..)
      have h2 := ih (l.drop (i + 1)) (fun p hp => h p (List.mem_cons_of_mem _ hp))
      rw [List.length_take] at h1
      rw [List.length_drop] at h2
      rw [List.length_cons, Nat.mul_add]
      omega
theorem wordL_len {l : List UInt8} (h : wordL l = true) : l.length ≤ 8 := by
  unfold wordL at h
  rw [Bool.and_eq_true, decide_eq_true_eq] at h
  exact h.2.2
theorem domL_len {l : List UInt8} (h : domL l = true) : l.length ≤ 26 := by
  unfold domL at h
  rw [Bool.and_eq_true, decide_eq_true_eq, List.all_eq_true] at h
  have := cuts_bound 46 8 3 l (fun p hp => wordL_len (h.1 p hp))
  have h2 := h.2
  omega
end Go.Proofs.YtjdpdkdhfnpcgaaGreatDoor.Q
namespace Go.Proofs.YtjdpdkdhfnpcgaaGreatDoor.Q
open Go.RowKit Go.Proofs.YtjdpdkdhfnpcgaaGreatDoorW.PrintWords Go.Proofs.YtjdpdkdhfnpcgaaGreatDoorW.PrintLast Go.Proofs.YtjdpdkdhfnpcgaaGreatDoorW.PrintMore
set_option linter.unusedVariables false
set_option linter.unusedSimpArgs false
def FROM : List UInt8 := [102, 114, 111, 109, 32]
def TO : List UInt8 := [116, 111, 32]
def fromLine (u d : ByteArray) : List UInt8 := FROM ++ (LL (textA u d) ++ CRLF)
def toLine (x : IA) : List UInt8 := TO ++ (LL (textA x.f0 x.f1) ++ CRLF)
def toLines (l : List IA) : List UInt8 := l.flatMap toLine
def putM (u d : ByteArray) (tos : List IA) (body : List ByteArray) : List UInt8 := fromLine u d ++ (toLines tos ++ (CRLF ++ dots body))
def mailPut (u d : ByteArray) (tos : List IA) (body : List ByteArray) : ByteArray := if mailL u d tos body = true then BB (putM u d tos body) else ⟨#[]⟩
theorem dots_len (ls : List ByteArray) : (dots ls).length = (dotLines ls).length + 3 := by
  unfold dots
  rw [List.length_append]
  rfl
theorem textA_size (u d : ByteArray) : (textA u d).size ≤ u.size + d.size + 3 := by
  unfold textA
  split
  · show 2 ≤ _
    omega
  · rw [size_BB]
    unfold textL
    simp only [List.length_cons, List.length_append, List.length_nil]
    rw [← size_LL, ← size_LL]
    omega
theorem addrL_size {u d : ByteArray} (h : addrL u d = true) : u.size ≤ 8 ∧ d.size ≤ 26 := by
  unfold addrL at h
  rw [Bool.and_eq_true] at h
  rw [size_LL, size_LL]
  exact ⟨wordL_len h.1, domL_len h.2⟩
theorem senderA_text {u d : ByteArray} (h : senderA u d = true) : (textA u d).size ≤ 37 := by
  unfold senderA at h
  rw [Bool.or_eq_true] at h
  have := textA_size u d
  rcases h with h | h
  · obtain ⟨rfl, rfl⟩ := nullA_eq h
    show 2 ≤ 37
    omega
  · have := addrL_size h
    omega
theorem mailL_parts {u d : ByteArray} {tos : List IA} {body : List ByteArray} (h : mailL u d tos body = true) :
    (tos.all addrA = true ∧ (pairsA tos).Nodup) ∧ senderA u d = true ∧ (1 ≤ tos.length ∧ tos.length ≤ 4) ∧ bodyOk body = true := by
  unfold mailL restM inB at h
  simp only [Bool.and_eq_true, decide_eq_true_eq] at h
  refine ⟨h.1, h.2.1, ?_, h.2.2.2⟩
  have := h.2.2.1
  omega
theorem toText {tos : List IA} (h : tos.all addrA = true) : ∀ x ∈ tos, (textA x.f0 x.f1).size ≤ 37 := fun x hx => by
  have h1 : addrL x.f0 x.f1 = true := List.all_eq_true.1 h x hx
  exact senderA_text (by unfold senderA; rw [h1, Bool.or_true])
theorem cat3 (x t : ByteArray) : LL (((x ++ (⟨#[116, 111, 32]⟩ : ByteArray)) ++ t) ++ (⟨#[13, 10]⟩ : ByteArray)) = LL x ++ (TO ++ (LL t ++ CRLF)) := by
  rw [LL_append, LL_append, LL_append, List.append_assoc, List.append_assoc]
  rfl
theorem cat4 (x t : ByteArray) : LL (x ++ (((⟨#[116, 111, 32]⟩ : ByteArray) ++ t) ++ (⟨#[13, 10]⟩ : ByteArray))) = LL x ++ (TO ++ (LL t ++ CRLF)) := by
  rw [LL_append, LL_append, LL_append, List.append_assoc]
  rfl
theorem catEnd (x t : ByteArray) (l : List UInt8) (h : t = BB l) : (x ++ (⟨#[13, 10]⟩ : ByteArray)) ++ t = BB (LL x ++ (CRLF ++ l)) := LL_inj (by
  rw [h, LL_append, LL_append, LL_BB, LL_BB, List.append_assoc]
  rfl)
theorem cat0 (t : ByteArray) : LL (((⟨#[102, 114, 111, 109, 32]⟩ : ByteArray) ++ t) ++ (⟨#[13, 10]⟩ : ByteArray)) = FROM ++ (LL t ++ CRLF) := by
  rw [LL_append, LL_append, List.append_assoc]
  rfl
section
variable {u d : ByteArray} {tos : List IA} {body : List ByteArray} (hB : MailB u d tos body) (hm : mailL u d tos body = true)
include hB hm
theorem l2Put_loop : ∀ m i : Nat, i + m = tos.length → ∀ x : ByteArray, x.size + 45 * m ≤ 1000 → Ev (fun k => spec_l2Put.l0 k x (i : Int) u d tos body) (BB (LL x ++ (toLines (tos.drop i) ++ (CRLF ++ dots body)))) := by
  obtain ⟨⟨ha, _⟩, _, ⟨_, h4⟩, hbo⟩ := mailL_parts hm
  have htx := toText ha
  have hbd := bodyOk_dots hbo
  have hz2 : (⟨#[13, 10]⟩ : ByteArray).size = 2 := rfl
  have hz3 : (⟨#[116, 111, 32]⟩ : ByteArray).size = 3 := rfl
  intro m
  induction m with
  | zero =>
    intro i hi x hx
    rw [List.drop_of_length_le (by omega)]
    refine Ev.step (fun k => by rw [spec_l2Put.l0]) (Ev.neg (by omega) (Ev.pos (by omega) (Ev.bnd (l2Dots_ev body (by have := (bodyOk_parts hbo).1; omega) (by omega)) (Ev.pos ?_ (Ev.eq (Ev.ret _) ?_)))))
    · have hdl := dots_len body
      rw [size_append, size_BB (dots body), hz2]
      omega
    · rw [catEnd x _ _ rfl]
      rfl
  | succ m ih =>
    intro i hi x hx
    have hil : i < tos.length := by omega
    have ht := htx _ (List.getElem_mem hil)
    obtain ⟨z0, z1⟩ := hB.2.2.1.2 _ (List.getElem_mem hil)
    rw [List.drop_eq_getElem_cons hil]
    refine Ev.step (fun k => by rw [spec_l2Put.l0]) (Ev.pos (by omega) (Ev.pos (by omega) (Ev.pos (by omega) ?_)))
    rw [rdIA tos i hil, wsucc (by omega)]
    refine Ev.bnd (Ev.k (l1Put_f _ _ (by omega) (by omega))) (Ev.pos ?_ (Ev.pos ?_ ?_))
    · rw [size_append, hz3]; omega
    · rw [size_append, size_append, hz3]; omega
    · refine Ev.eq (ih (i + 1) (by omega) _ ?_) ?_
      · rw [size_append, size_append, size_append, hz3, hz2]; omega
      · rw [cat3]
        unfold toLines
        rw [List.flatMap_cons]
        unfold toLine
        simp only [List.append_assoc]
theorem implPut_loop : ∀ m i : Nat, i + m = tos.length → ∀ x : ByteArray, x.size + 45 * m ≤ 1000 → Ev (fun k => impl_MailPut.l0 k x tos (tos.length : Int) (i : Int) u d tos body) (BB (LL x ++ (toLines (tos.drop i) ++ (CRLF ++ dots body)))) := by
  obtain ⟨⟨ha, _⟩, _, ⟨_, h4⟩, hbo⟩ := mailL_parts hm
  have htx := toText ha
  have hbd := bodyOk_dots hbo
  have hz2 : (⟨#[13, 10]⟩ : ByteArray).size = 2 := rfl
  have hz3 : (⟨#[116, 111, 32]⟩ : ByteArray).size = 3 := rfl
  intro m
  induction m with
  | zero =>
    intro i hi x hx
    rw [List.drop_of_length_le (by omega)]
    refine Ev.step (fun k => by rw [impl_MailPut.l0]) (Ev.neg (by omega) (Ev.pos (by omega) (Ev.bnd (Ev.k (dotted_eq body (by omega))) (Ev.pos ?_ (Ev.eq (Ev.ret _) ?_)))))
    · have hdl := dots_len body
      rw [size_append, size_BB (dots body), hz2]
      omega
    · rw [catEnd x _ _ rfl]
      rfl
  | succ m ih =>
    intro i hi x hx
    have hil : i < tos.length := by omega
    have ht := htx _ (List.getElem_mem hil)
    obtain ⟨z0, z1⟩ := hB.2.2.1.2 _ (List.getElem_mem hil)
    rw [List.drop_eq_getElem_cons hil]
    refine Ev.step (fun k => by rw [impl_MailPut.l0]) (Ev.pos (by omega) (Ev.pos (by omega) (Ev.pos (by omega) ?_)))
    rw [rdIA tos i hil, wsucc (by omega)]
    refine Ev.bnd (Ev.k (text_f _ _ (by omega) (by omega))) (Ev.pos ?_ (Ev.pos ?_ (Ev.pos ?_ ?_)))
    · omega
    · rw [size_append, hz3]; omega
    · rw [size_append, size_append, hz3, hz2]; omega
    · refine Ev.eq (ih (i + 1) (by omega) _ ?_) ?_
      · rw [size_append, size_append, size_append, hz3, hz2]; omega
      · rw [cat4]
        unfold toLines
        rw [List.flatMap_cons]
        unfold toLine
        simp only [List.append_assoc]
theorem l2Put_ev : Ev (fun k => spec_l2Put.f k u d tos body) (BB (putM u d tos body)) := by
  obtain ⟨_, hs, ⟨_, h4⟩, _⟩ := mailL_parts hm
  have ht := senderA_text hs
  have hz5 : (⟨#[102, 114, 111, 109, 32]⟩ : ByteArray).size = 5 := rfl
  have hz2 : (⟨#[13, 10]⟩ : ByteArray).size = 2 := rfl
  unfold spec_l2Put.f
  refine Ev.bnd (Ev.k (l1Put_f u d (by have := hB.1; omega) (by have := hB.2.1; omega))) (Ev.pos (by omega) (Ev.pos (by rw [size_append, hz5]; omega) ?_))
  refine Ev.eq (l2Put_loop hB hm tos.length 0 (by omega) _ (by rw [size_append, size_append, hz5, hz2]; omega)) ?_
  rw [cat0, List.drop_zero]
  rfl
end
theorem implMailPut_ev {u d : ByteArray} {tos : List IA} {body : List ByteArray} (hB : MailB u d tos body) : Ev (fun k => impl_MailPut.f k u d tos body) (mailPut u d tos body) := by
  unfold impl_MailPut.f mailPut
  refine Ev.bnd (implMailOk_ev hB) ?_
  by_cases hm : mailL u d tos body = true
  · obtain ⟨_, hs, ⟨_, h4⟩, _⟩ := mailL_parts hm
    have ht := senderA_text hs
    have hz5 : (⟨#[102, 114, 111, 109, 32]⟩ : ByteArray).size = 5 := rfl
    have hz2 : (⟨#[13, 10]⟩ : ByteArray).size = 2 := rfl
    refine Ev.eq (Ev.pos hm (Ev.bnd (Ev.k (text_f u d (by have := hB.1; omega) (by have := hB.2.1; omega))) (Ev.pos (by omega) (Ev.pos (by rw [size_append, hz5]; omega) (implPut_loop hB hm tos.length 0 (by omega) _ (by rw [size_append, size_append, hz5, hz2]; omega)))))) ?_
    rw [if_pos hm, cat0, List.drop_zero]
    rfl
  · exact Ev.eq (Ev.neg hm (Ev.ret _)) (if_neg hm).symm
end Go.Proofs.YtjdpdkdhfnpcgaaGreatDoor.Q
namespace Go.Proofs.YtjdpdkdhfnpcgaaGreatDoor.Q
open Go.RowKit Go.Proofs.YtjdpdkdhfnpcgaaGreatDoorW.PrintWords Go.Proofs.YtjdpdkdhfnpcgaaGreatDoorW.PrintLast Go.Proofs.YtjdpdkdhfnpcgaaGreatDoorW.PrintMore
set_option linter.unusedVariables false
set_option linter.unusedSimpArgs false
theorem szStringS_loop (l : List ByteArray) (hm : l.length ≤ 9223372036854775807) (hs : ∀ s ∈ l, s.size ≤ 9223372036854775807) : ∀ d i : Nat, i + d = l.length → ∀ a : Int, 0 ≤ a → a ≤ 1048576 →
    ∃ r, Ev (fun k => laws_szStringS.l0 k l a (i : Int)) r ∧ r ≤ a ∧ (0 ≤ r → ∀ s ∈ l.drop i, (s.size : Int) ≤ a) := by
  intro d
  induction d with
  | zero =>
    intro i hi a h0 h1
    refine ⟨a, ?_, Int.le_refl _, fun _ s hs => by rw [List.drop_of_length_le (by omega)] at hs; cases hs⟩
    refine Ev.step (fun k => by rw [laws_szStringS.l0]) ?_
    exact Ev.neg (by omega) (Ev.ret _)
  | succ d ih =>
    intro i hi a h0 h1
    have hz := hs _ (mem_rd l i (by omega))
    have hw : wrap64 (a - ((rdOf ByteArray.empty l (i : Int)).size : Int)) = a - ((rdOf ByteArray.empty l (i : Int)).size : Int) := w64 (by omega) (by omega)
    by_cases h : a - ((rdOf ByteArray.empty l (i : Int)).size : Int) < 0
    · refine ⟨-1, ?_, by omega, by omega⟩
      refine Ev.step (fun k => by rw [laws_szStringS.l0]) ?_
      refine Ev.pos (by omega) (Ev.pos (by omega) ?_)
      rw [hw]
      exact Ev.pos h (Ev.ret _)
    · obtain ⟨r, hr, hle, hall⟩ := ih (i + 1) (by omega) (a - ((rdOf ByteArray.empty l (i : Int)).size : Int)) (by omega) (by omega)
      refine ⟨r, ?_, by omega, fun h0' s hs' => ?_⟩
      · refine Ev.step (fun k => by rw [laws_szStringS.l0]) ?_
        refine Ev.pos (by omega) (Ev.pos (by omega) ?_)
        rw [hw]
        refine Ev.neg h ?_
        rw [wsucc (by omega)]
        exact hr
      · rw [drop_rd l i (by omega)] at hs'
        rcases List.mem_cons.1 hs' with rfl | hs'
        · omega
        · have := hall h0' s hs'
          omega
theorem szStringS_ev (l : List ByteArray) (hm : l.length ≤ 9223372036854775807) (hs : ∀ s ∈ l, s.size ≤ 9223372036854775807) (a : Int) (h0 : 0 ≤ a) (h1 : a ≤ 1048576) :
    ∃ r, Ev (fun k => laws_szStringS.f k l a) r ∧ r ≤ a ∧ (0 ≤ r → (l.length : Int) ≤ a ∧ ∀ s ∈ l, (s.size : Int) ≤ a) := by
  unfold laws_szStringS.f
  have hw : wrap64 (a - (l.length : Int)) = a - (l.length : Int) := w64 (by omega) (by omega)
  rw [hw]
  by_cases h : a - (l.length : Int) < 0
  · exact ⟨-1, Ev.pos h (Ev.ret _), by omega, by omega⟩
  · obtain ⟨r, hr, hle, hall⟩ := szStringS_loop l hm hs l.length 0 (by omega) (a - (l.length : Int)) (by omega) (by omega)
    refine ⟨r, Ev.neg h hr, by omega, fun h0' => ⟨by omega, fun s hs' => ?_⟩⟩
    have := hall h0' s (by simpa using hs')
    omega
theorem toStringS_loop (l : List ByteArray) (hm : l.length ≤ 1099511627776) : ∀ d i : Nat, i + d = l.length → ∀ x : List ByteArray, x.length = l.length → x.take i = l.take i →
    Ev (fun k => laws_toStringS.l0 k l x (i : Int)) l := by
  intro d
  induction d with
  | zero =>
    intro i hi x hx ht
    refine Ev.step (fun k => by rw [laws_toStringS.l0]) ?_
    refine Ev.neg (by omega) (Ev.k ?_)
    rw [List.take_of_length_le (by omega), List.take_of_length_le (by omega)] at ht
    rw [ht]
  | succ d ih =>
    intro i hi x hx ht
    refine Ev.step (fun k => by rw [laws_toStringS.l0]) ?_
    refine Ev.pos (by omega) (Ev.pos (by omega) (Ev.pos (by omega) ?_))
    rw [wsucc (by omega), Int.toNat_natCast]
    refine ih (i + 1) (by omega) _ (by rw [List.length_set, hx]) ?_
    rw [List.take_succ_eq_append_getElem (by rw [List.length_set]; omega), List.take_succ_eq_append_getElem (by omega), List.take_set_of_le (by omega), ht]
    congr 2
    rw [List.getElem_set_self, rd_get l i (by omega)]
theorem toStringS_ev (l : List ByteArray) (hm : l.length ≤ 1099511627776) : Ev (fun k => laws_toStringS.f k l) l := by
  unfold laws_toStringS.f
  refine Ev.pos (by omega) ?_
  rw [Int.toNat_natCast]
  refine Ev.pos (by omega) ?_
  exact toStringS_loop l hm l.length 0 (by omega) _ (by simp) (by simp)
end Go.Proofs.YtjdpdkdhfnpcgaaGreatDoor.Q
namespace Go.Proofs.YtjdpdkdhfnpcgaaGreatDoor.Q
open Go.RowKit Go.Proofs.YtjdpdkdhfnpcgaaGreatDoorW.PrintWords Go.Proofs.YtjdpdkdhfnpcgaaGreatDoorW.PrintLast Go.Proofs.YtjdpdkdhfnpcgaaGreatDoorW.PrintMore
set_option linter.unusedVariables false
set_option linter.unusedSimpArgs false
theorem toLines_size (tos : List IA) (hx : ∀ x ∈ tos, (textA x.f0 x.f1).size ≤ 37) : (toLines tos).length ≤ 45 * tos.length := by
  induction tos with
  | nil => exact Nat.zero_le _
  | cons x tos ih =>
    have := hx x (List.mem_cons_self ..)
    have i1 := ih (fun y hy => hx y (List.mem_cons_of_mem _ hy))
    have e0 : toLines (x :: tos) = toLine x ++ toLines tos := by unfold toLines; rw [List.flatMap_cons]
    have e1 : (toLine x).length = 5 + (textA x.f0 x.f1).size := by
      unfold toLine
      simp only [List.length_append, ← size_LL]
      have e1 : TO.length = 3 := rfl
      have e2 : CRLF.length = 2 := rfl
      omega
    rw [e0, List.length_append, List.length_cons, e1]
    omega
theorem putM_size {u d : ByteArray} {tos : List IA} {body : List ByteArray} (h : mailL u d tos body = true) : (putM u d tos body).length ≤ 800 := by
  obtain ⟨⟨ha, _⟩, hs, ⟨_, h4⟩, hbo⟩ := mailL_parts h
  have h1 := senderA_text hs
  have h2 := bodyOk_dots hbo
  have h3 := dots_len body
  have h5 := toLines_size tos (toText ha)
  unfold putM fromLine
  simp only [List.length_append, ← size_LL]
  have e1 : FROM.length = 5 := rfl
  have e2 : CRLF.length = 2 := rfl
  omega
end Go.Proofs.YtjdpdkdhfnpcgaaGreatDoor.Q
namespace Go.Proofs.YtjdpdkdhfnpcgaaGreatDoor.Q
open Go.RowKit Go.Proofs.YtjdpdkdhfnpcgaaGreatDoorW.PrintWords Go.Proofs.YtjdpdkdhfnpcgaaGreatDoorW.PrintLast Go.Proofs.YtjdpdkdhfnpcgaaGreatDoorW.PrintMore
set_option linter.unusedVariables false
set_option linter.unusedSimpArgs false
theorem digit_str (x : Nat) (h : x < 10) : strOfNums [wrap64 (48 + (x : Int)) % 256] = BB [UInt8.ofNat (48 + x)] := by
  have e : wrap64 (48 + (x : Int)) % 256 = ((48 + x : Nat) : Int) := by
    rw [w64 (by omega) (by omega)]
    omega
  rw [e]
  refine LL_inj ?_
  rw [LL_BB]
  show (strOfNums [((48 + x : Nat) : Int)]).data.toList = _
  rw [strOfNums_data]
  rfl
theorem decLen (u : Nat) (hu : u ≤ 9223372036854775807) : (Lib.decDigits u).length ≤ 21 := by
  have := Lib.itoa_length_le (u : Int) (by omega) (by omega)
  rwa [Lib.itoa_nonneg] at this
theorem l1Dec_ev : ∀ u : Nat, u ≤ 9223372036854775807 → Ev (fun k => spec_l1Dec.f k (u : Int)) (BB (Lib.decDigits u)) := by
  intro u
  induction u using Nat.strongRecOn with
  | _ u ih =>
    intro hu
    refine Ev.step (fun k => by rw [spec_l1Dec.f]) (Ev.neg (by omega) (Ev.neg (by omega) ?_))
    by_cases h : u < 10
    · refine Ev.pos (by omega) (Ev.eq (Ev.ret _) ?_)
      rw [digit_str u h, Lib.decDigits, dif_pos h]
    · refine Ev.neg (by omega) ?_
      have e1 : wrap64 (Int.tdiv (u : Int) 10) = ((u / 10 : Nat) : Int) := by
        rw [show Int.tdiv (u : Int) 10 = ((u / 10 : Nat) : Int) from rfl, w64 (by omega) (by omega)]
      have e2 : Int.tmod (u : Int) 10 = ((u % 10 : Nat) : Int) := rfl
      have hl := decLen (u / 10) (by omega)
      rw [e1, e2]
      refine Ev.bnd (ih (u / 10) (by omega) (by omega)) (Ev.bnd (Ev.ret _) (Ev.pos ?_ (Ev.eq (Ev.ret _) ?_)))
      · rw [digit_str (u % 10) (by omega), size_BB, size_BB]
        simp only [List.length_cons, List.length_nil]
        omega
      · rw [digit_str (u % 10) (by omega)]
        refine LL_inj ?_
        rw [LL_append, LL_BB, LL_BB, LL_BB]
        conv => rhs; rw [Lib.decDigits, dif_neg h]
theorem itoa_f {n : Int} (h0 : 0 ≤ n) (h1 : n ≤ 9223372036854775807) : strconv_Itoa.f n = some (BB (Lib.decDigits n.toNat)) := by
  unfold strconv_Itoa.f
  obtain ⟨u, rfl⟩ := int_of_nat h0
  rw [if_pos ⟨by omega, h1⟩, Lib.itoa_nonneg, Int.toNat_natCast]
theorem l1Dec_f {n : Int} (h0 : 0 ≤ n) (h1 : n ≤ 9223372036854775807) : Ev (fun k => spec_l1Dec.f k n) (BB (Lib.decDigits n.toNat)) := by
  obtain ⟨u, rfl⟩ := int_of_nat h0
  rw [Int.toNat_natCast]
  exact l1Dec_ev u (by omega)
abbrev DD (n : Int) : List UInt8 := Lib.decDigits n.toNat
def ADD : List UInt8 := [97, 100, 100, 32]
def DONE : List UInt8 := [100, 111, 110, 101, 32]
def LATER : List UInt8 := [108, 97, 116, 101, 114, 32]
def noteBody (kind id : Int) (u d : ByteArray) (now : Int) (fu fd : ByteArray) (tos : List IA) (body : List ByteArray) : List UInt8 :=
  if kind = 1 then ADD ++ (DD now ++ ([10] ++ putM fu fd tos body))
  else if kind = 2 then DONE ++ (DD id ++ ([32] ++ LL (textA u d)))
  else LATER ++ (DD id ++ ([32] ++ (LL (textA u d) ++ ([32] ++ DD now))))
def notePut (kind id : Int) (u d : ByteArray) (now : Int) (fu fd : ByteArray) (tos : List IA) (body : List ByteArray) : ByteArray :=
  if noteL kind id u d now fu fd tos body = true then BB (noteBody kind id u d now fu fd tos body) else ⟨#[]⟩
theorem inB_iff {n a b : Int} : inB n a b = true ↔ a ≤ n ∧ n ≤ b := by
  unfold inB
  simp
theorem noteL_kind {kind id : Int} {u d : ByteArray} {now : Int} {fu fd : ByteArray} {tos : List IA} {body : List ByteArray} (h : noteL kind id u d now fu fd tos body = true) :
    (kind = 1 ∧ id = 0 ∧ nullA u d = true ∧ mailL fu fd tos body = true ∧ 0 ≤ now ∧ now ≤ 9999) ∨
    (kind = 2 ∧ bareM fu fd tos body = true ∧ 1 ≤ id ∧ id ≤ 999 ∧ addrL u d = true ∧ now = 0) ∨
    (kind = 3 ∧ bareM fu fd tos body = true ∧ 1 ≤ id ∧ id ≤ 999 ∧ addrL u d = true ∧ 0 ≤ now ∧ now ≤ 9999) := by
  unfold noteL at h
  by_cases h1 : kind = 1
  · rw [if_pos h1] at h
    simp only [Bool.and_eq_true, decide_eq_true_eq, inB_iff] at h
    exact .inl ⟨h1, h.1, h.2.1, h.2.2.1, h.2.2.2.1, h.2.2.2.2⟩
  rw [if_neg h1] at h
  by_cases h2 : kind = 2
  · rw [if_pos h2] at h
    simp only [Bool.and_eq_true, decide_eq_true_eq, inB_iff] at h
    exact .inr (.inl ⟨h2, h.1, h.2.1.1, h.2.1.2, h.2.2.1, h.2.2.2⟩)
  rw [if_neg h2] at h
  by_cases h3 : kind = 3
  · rw [if_pos h3] at h
    simp only [Bool.and_eq_true, decide_eq_true_eq, inB_iff] at h
    exact .inr (.inr ⟨h3, h.1, h.2.1.1, h.2.1.2, h.2.2.1, h.2.2.2.1, h.2.2.2.2⟩)
  · rw [if_neg h3] at h
    cases h
theorem sender_addr {u d : ByteArray} (h : addrL u d = true) : senderA u d = true := by unfold senderA; rw [h, Bool.or_true]
section
variable {kind id : Int} {u d : ByteArray} {now : Int} {fu fd : ByteArray} {tos : List IA} {body : List ByteArray}
theorem l6Body_ev (hB : MailB fu fd tos body) (hn : noteL kind id u d now fu fd tos body = true) : Ev (fun k => spec_l6Body.f k kind id u d now fu fd tos body) (BB (noteBody kind id u d now fu fd tos body)) := by
  unfold spec_l6Body.f noteBody
  rcases noteL_kind hn with ⟨h1, rfl, hnu, hm, h4, h5⟩ | ⟨h1, hb, h3, h4, ha, rfl⟩ | ⟨h1, hb, h3, h4, ha, h6, h7⟩
  · have hl := decLen now.toNat (by omega)
    have hps := putM_size hm
    rw [if_pos h1]
    refine Ev.pos h1 (Ev.bnd (l1Dec_f h4 (by omega)) (Ev.pos ?_ (Ev.pos ?_ (Ev.bnd (l2Put_ev hB hm) (Ev.pos ?_ (Ev.eq (Ev.ret _) ?_))))))
    · simp only [size_append, size_BB, List.length_cons, List.length_nil]; omega
    · simp only [size_append, size_BB, List.length_cons, List.length_nil]; omega
    · simp only [size_append, size_BB, List.length_cons, List.length_nil]; omega
    · refine LL_inj ?_
      simp only [LL_append, LL_BB, List.append_assoc]
      rfl
  · have hl := decLen id.toNat (by omega)
    have ht := senderA_text (sender_addr ha)
    have has := addrL_size ha
    rw [if_neg (by omega), if_pos h1]
    refine Ev.neg (by omega) (Ev.pos h1 (Ev.bnd (l1Dec_f (by omega) (by omega)) (Ev.pos ?_ (Ev.pos ?_ (Ev.bnd (Ev.k (l1Put_f u d (by omega) (by omega))) (Ev.pos ?_ (Ev.eq (Ev.ret _) ?_)))))))
    · simp only [size_append, size_BB, List.length_cons, List.length_nil]; omega
    · simp only [size_append, size_BB, List.length_cons, List.length_nil]; omega
    · simp only [size_append, size_BB, List.length_cons, List.length_nil]; omega
    · refine LL_inj ?_
      simp only [LL_append, LL_BB, List.append_assoc]
      rfl
  · have hl := decLen id.toNat (by omega)
    have hl2 := decLen now.toNat (by omega)
    have ht := senderA_text (sender_addr ha)
    have has := addrL_size ha
    have z6 : (⟨#[108, 97, 116, 101, 114, 32]⟩ : ByteArray).size = 6 := rfl
    have z1 : (⟨#[32]⟩ : ByteArray).size = 1 := rfl
    rw [if_neg (by omega), if_neg (by omega)]
    refine Ev.neg (by omega) (Ev.neg (by omega) (Ev.bnd (l1Dec_f (by omega) (by omega)) (Ev.pos ?_ (Ev.pos ?_ (Ev.bnd (Ev.k (l1Put_f u d (by omega) (by omega))) (Ev.pos ?_ (Ev.pos ?_ (Ev.bnd (l1Dec_f h6 (by omega)) (Ev.pos ?_ (Ev.eq (Ev.ret _) ?_))))))))))
    · simp only [size_append, size_BB, List.length_cons, List.length_nil]; omega
    · simp only [size_append, size_BB, List.length_cons, List.length_nil]; omega
    · simp only [size_append, size_BB, List.length_cons, List.length_nil]; omega
    · simp only [size_append, size_BB, List.length_cons, List.length_nil]; omega
    · simp only [size_append, size_BB, List.length_cons, List.length_nil]; omega
    · refine LL_inj ?_
      simp only [LL_append, LL_BB, List.append_assoc]
      rfl
theorem specNotePut_ev (hu : u.size ≤ 1048576) (hd : d.size ≤ 1048576) (hB : MailB fu fd tos body) : Ev (fun k => spec_NotePut.f k kind id u d now fu fd tos body) (notePut kind id u d now fu fd tos body) := by
  unfold spec_NotePut.f notePut
  refine Ev.bnd (l6Ok_ev kind id u d now hu hd hB) ?_
  by_cases hn : noteL kind id u d now fu fd tos body = true
  · exact Ev.eq (Ev.pos hn (Ev.bnd (l6Body_ev hB hn) (Ev.ret _))) (if_pos hn).symm
  · exact Ev.eq (Ev.neg hn (Ev.ret _)) (if_neg hn).symm
theorem implNotePut_ev (hu : u.size ≤ 1048576) (hd : d.size ≤ 1048576) (hB : MailB fu fd tos body) : Ev (fun k => impl_NotePut.f k kind id u d now fu fd tos body) (notePut kind id u d now fu fd tos body) := by
  unfold impl_NotePut.f notePut
  refine Ev.bnd (implNoteOk_ev kind id u d now hu hd hB) ?_
  by_cases hn : noteL kind id u d now fu fd tos body = true
  · refine Ev.eq (r := BB (noteBody kind id u d now fu fd tos body)) (Ev.pos hn ?_) (if_pos hn).symm
    unfold noteBody
    have z6 : (⟨#[108, 97, 116, 101, 114, 32]⟩ : ByteArray).size = 6 := rfl
    have z5 : (⟨#[100, 111, 110, 101, 32]⟩ : ByteArray).size = 5 := rfl
    have z4 : (⟨#[97, 100, 100, 32]⟩ : ByteArray).size = 4 := rfl
    have z1 : (⟨#[32]⟩ : ByteArray).size = 1 := rfl
    have zn : (⟨#[10]⟩ : ByteArray).size = 1 := rfl
    rcases noteL_kind hn with ⟨h1, rfl, hnu, hm, h4, h5⟩ | ⟨h1, hb, h3, h4, ha, rfl⟩ | ⟨h1, hb, h3, h4, ha, h6, h7⟩
    · have hl := decLen now.toNat (by omega)
      have hps := putM_size hm
      have hp := implMailPut_ev hB
      unfold mailPut at hp
      rw [if_pos hm] at hp
      rw [if_pos h1]
      refine Ev.bnd (Ev.k (itoa_f h4 (by omega))) (Ev.pos h1 (Ev.pos ?_ (Ev.pos ?_ (Ev.bnd hp (Ev.pos ?_ (Ev.eq (Ev.ret _) ?_))))))
      · simp only [size_append, size_BB, List.length_cons, List.length_nil]; omega
      · simp only [size_append, size_BB, List.length_cons, List.length_nil]; omega
      · simp only [size_append, size_BB, List.length_cons, List.length_nil]; omega
      · refine LL_inj ?_
        simp only [LL_append, LL_BB, List.append_assoc]
        rfl
    · have hl := decLen id.toNat (by omega)
      have ht := senderA_text (sender_addr ha)
      have has := addrL_size ha
      rw [if_neg (by omega), if_pos h1]
      refine Ev.bnd (Ev.k (itoa_f (by omega) (by omega))) (Ev.neg (by omega) (Ev.bnd (Ev.k (itoa_f (by omega) (by omega))) (Ev.pos ?_ (Ev.bnd (Ev.k (text_f u d (by omega) (by omega))) (Ev.pos ?_ (Ev.pos h1 (Ev.pos ?_ (Ev.eq (Ev.ret _) ?_))))))))
      · simp only [size_append, size_BB, List.length_cons, List.length_nil]; omega
      · simp only [size_append, size_BB, List.length_cons, List.length_nil]; omega
      · simp only [size_append, size_BB, List.length_cons, List.length_nil]; omega
      · refine LL_inj ?_
        simp only [LL_append, LL_BB, List.append_assoc]
        rfl
    · have hl := decLen id.toNat (by omega)
      have hl2 := decLen now.toNat (by omega)
      have ht := senderA_text (sender_addr ha)
      have has := addrL_size ha
      rw [if_neg (by omega), if_neg (by omega)]
      refine Ev.bnd (Ev.k (itoa_f h6 (by omega))) (Ev.neg (by omega) (Ev.bnd (Ev.k (itoa_f (by omega) (by omega))) (Ev.pos ?_ (Ev.bnd (Ev.k (text_f u d (by omega) (by omega))) (Ev.pos ?_ (Ev.neg (by omega) (Ev.pos ?_ (Ev.pos ?_ (Ev.pos ?_ (Ev.eq (Ev.ret _) ?_))))))))))
      · simp only [size_append, size_BB, List.length_cons, List.length_nil]; omega
      · simp only [size_append, size_BB, List.length_cons, List.length_nil]; omega
      · simp only [size_append, size_BB, List.length_cons, List.length_nil]; omega
      · simp only [size_append, size_BB, List.length_cons, List.length_nil]; omega
      · simp only [size_append, size_BB, List.length_cons, List.length_nil]; omega
      · refine LL_inj ?_
        simp only [LL_append, LL_BB, List.append_assoc]
        rfl
  · exact Ev.eq (Ev.neg hn (Ev.ret _)) (if_neg hn).symm
end
end Go.Proofs.YtjdpdkdhfnpcgaaGreatDoor.Q
namespace Go.Proofs.YtjdpdkdhfnpcgaaGreatDoor.Q
open Go.RowKit Go.Proofs.YtjdpdkdhfnpcgaaGreatDoorW.PrintWords Go.Proofs.YtjdpdkdhfnpcgaaGreatDoorW.PrintLast Go.Proofs.YtjdpdkdhfnpcgaaGreatDoorW.PrintMore
theorem szAddr_f (x y : ByteArray) (hx : x.size ≤ 9223372036854775807) (hy : y.size ≤ 9223372036854775807) (a : Int) (h0 : 0 ≤ a) (h1 : a ≤ 1048576) :
    ∃ r, laws_szAddr.f x y a = some r ∧ r ≤ a ∧ (0 ≤ r → (x.size : Int) ≤ a ∧ (y.size : Int) ≤ a) := by
  unfold laws_szAddr.f
  have hw : wrap64 (a - (x.size : Int)) = a - (x.size : Int) := w64 (by omega) (by omega)
  rw [hw]
  by_cases h : a - (x.size : Int) < 0
  · exact ⟨-1, if_pos h, by omega, by omega⟩
  · have hw2 : wrap64 (a - (x.size : Int) - (y.size : Int)) = a - (x.size : Int) - (y.size : Int) := w64 (by omega) (by omega)
    rw [if_neg h, hw2]
    by_cases h2 : a - (x.size : Int) - (y.size : Int) < 0
    · exact ⟨-1, if_pos h2, by omega, by omega⟩
    · exact ⟨_, if_neg h2, by omega, by omega⟩
theorem eqAddr_refl (x y : ByteArray) : laws_eqAddr.f x y x y = some true := by
  unfold laws_eqAddr.f
  rw [if_pos rfl, if_pos rfl]
end Go.Proofs.YtjdpdkdhfnpcgaaGreatDoor.Q
namespace Go.Proofs.YtjdpdkdhfnpcgaaGreatDoor.Q
open Go.RowKit Go.Proofs.YtjdpdkdhfnpcgaaGreatDoorW.PrintWords Go.Proofs.YtjdpdkdhfnpcgaaGreatDoorW.PrintLast Go.Proofs.YtjdpdkdhfnpcgaaGreatDoorW.PrintMore
set_option linter.unusedVariables false
set_option linter.unusedSimpArgs false
abbrev LA := S41
theorem rdLA (l : List LA) (i : Nat) (h : i < l.length) : rd_T41 l (i : Int) = l[i] := by
  unfold rd_T41
  rw [Int.toNat_natCast, List.getD_eq_getElem?_getD, List.getElem?_eq_getElem h]
  rfl
theorem szAddrS_loop (l : List LA) (hm : l.length ≤ 9223372036854775807) (hs : ∀ s ∈ l, s.f0.size ≤ 9223372036854775807 ∧ s.f1.size ≤ 9223372036854775807) : ∀ d i : Nat, i + d = l.length → ∀ a : Int, 0 ≤ a → a ≤ 1048576 →
    ∃ r, Ev (fun k => laws_szAddrS.l0 k l a (i : Int)) r ∧ r ≤ a ∧ (0 ≤ r → ∀ s ∈ l.drop i, (s.f0.size : Int) ≤ a ∧ (s.f1.size : Int) ≤ a) := by
  intro d
  induction d with
  | zero =>
    intro i hi a h0 h1
    refine ⟨a, ?_, Int.le_refl _, fun _ s hs => by rw [List.drop_of_length_le (by omega)] at hs; cases hs⟩
    refine Ev.step (fun k => by rw [laws_szAddrS.l0]) ?_
    exact Ev.neg (by omega) (Ev.ret _)
  | succ d ih =>
    intro i hi a h0 h1
    have hil : i < l.length := by omega
    obtain ⟨z0, z1⟩ := hs l[i] (List.getElem_mem hil)
    obtain ⟨r, hr, hle, hall⟩ := szAddr_f _ _ z0 z1 a h0 h1
    by_cases h : r < 0
    · refine ⟨-1, ?_, by omega, by omega⟩
      refine Ev.step (fun k => by rw [laws_szAddrS.l0]) ?_
      refine Ev.pos (by omega) (Ev.pos (by omega) ?_)
      rw [rdLA l i hil]
      exact Ev.bnd (Ev.k hr) (Ev.pos h (Ev.ret _))
    · obtain ⟨q, hq, hle2, hall2⟩ := ih (i + 1) (by omega) r (by omega) (by omega)
      refine ⟨q, ?_, by omega, fun h0' s hs' => ?_⟩
      · refine Ev.step (fun k => by rw [laws_szAddrS.l0]) ?_
        refine Ev.pos (by omega) (Ev.pos (by omega) ?_)
        rw [rdLA l i hil]
        refine Ev.bnd (Ev.k hr) (Ev.neg h ?_)
        rw [wsucc (by omega)]
        exact hq
      · rw [List.drop_eq_getElem_cons hil] at hs'
        rcases List.mem_cons.1 hs' with rfl | hs'
        · exact hall (by omega)
        · have := hall2 h0' s hs'
          omega
theorem szAddrS_ev (l : List LA) (hm : l.length ≤ 9223372036854775807) (hs : ∀ s ∈ l, s.f0.size ≤ 9223372036854775807 ∧ s.f1.size ≤ 9223372036854775807) (a : Int) (h0 : 0 ≤ a) (h1 : a ≤ 1048576) :
    ∃ r, Ev (fun k => laws_szAddrS.f k l a) r ∧ r ≤ a ∧ (0 ≤ r → (l.length : Int) ≤ a ∧ ∀ s ∈ l, (s.f0.size : Int) ≤ a ∧ (s.f1.size : Int) ≤ a) := by
  unfold laws_szAddrS.f
  have hw : wrap64 (a - (l.length : Int)) = a - (l.length : Int) := w64 (by omega) (by omega)
  rw [hw]
  by_cases h : a - (l.length : Int) < 0
  · exact ⟨-1, Ev.pos h (Ev.ret _), by omega, by omega⟩
  · obtain ⟨r, hr, hle, hall⟩ := szAddrS_loop l hm hs l.length 0 (by omega) (a - (l.length : Int)) (by omega) (by omega)
    refine ⟨r, Ev.neg h hr, by omega, fun h0' => ⟨by omega, fun s hs' => ?_⟩⟩
    have := hall h0' s (by simpa using hs')
    omega
def toIA (x : LA) : IA := ⟨x.f0, x.f1⟩
theorem toAddrS_loop (l : List LA) (hm : l.length ≤ 1099511627776) : ∀ d i : Nat, i + d = l.length → ∀ x : List IA, x.length = l.length → x.take i = (l.take i).map toIA →
    Ev (fun k => laws_toAddrS.l0 k l x (i : Int)) (l.map toIA) := by
  intro d
  induction d with
  | zero =>
    intro i hi x hx ht
    refine Ev.step (fun k => by rw [laws_toAddrS.l0]) ?_
    refine Ev.neg (by omega) (Ev.k ?_)
    rw [List.take_of_length_le (by omega), List.take_of_length_le (by omega)] at ht
    rw [ht]
  | succ d ih =>
    intro i hi x hx ht
    have hil : i < l.length := by omega
    refine Ev.step (fun k => by rw [laws_toAddrS.l0]) ?_
    refine Ev.pos (by omega) (Ev.pos (by omega) ?_)
    rw [rdLA l i hil]
    refine Ev.bnd (Ev.k (show laws_toAddr.f _ _ = some _ from rfl)) ?_
    refine Ev.pos (by omega) ?_
    rw [wsucc (by omega), Int.toNat_natCast]
    refine ih (i + 1) (by omega) _ (by rw [List.length_set, hx]) ?_
    rw [List.take_succ_eq_append_getElem (by rw [List.length_set]; omega), List.take_succ_eq_append_getElem (by omega), List.take_set_of_le (by omega), ht, List.map_append]
    congr 2
    rw [List.getElem_set_self]
    rfl
theorem toAddrS_ev (l : List LA) (hm : l.length ≤ 1099511627776) : Ev (fun k => laws_toAddrS.f k l) (l.map toIA) := by
  unfold laws_toAddrS.f
  refine Ev.pos (by omega) ?_
  rw [Int.toNat_natCast]
  refine Ev.pos (by omega) ?_
  exact toAddrS_loop l hm l.length 0 (by omega) _ (by simp) (by simp)
theorem eqAddrS_loop (l : List IA) (hm : l.length ≤ 1099511627776) : ∀ d i : Nat, i + d = l.length → Ev (fun k => laws_eqAddrS.l0 k l l (i : Int)) true := by
  intro d
  induction d with
  | zero =>
    intro i hi
    refine Ev.step (fun k => by rw [laws_eqAddrS.l0]) ?_
    exact Ev.neg (by omega) (Ev.ret _)
  | succ d ih =>
    intro i hi
    refine Ev.step (fun k => by rw [laws_eqAddrS.l0]) ?_
    refine Ev.pos (by omega) (Ev.pos (by omega) (Ev.pos (by omega) ?_))
    refine Ev.bnd (Ev.k (eqAddr_refl _ _)) ?_
    refine Ev.pos rfl ?_
    rw [wsucc (by omega)]
    exact ih (i + 1) (by omega)
theorem eqAddrS_refl (l : List IA) (hm : l.length ≤ 1099511627776) : Ev (fun k => laws_eqAddrS.f k l l) true := by
  unfold laws_eqAddrS.f
  exact Ev.pos rfl (eqAddrS_loop l hm l.length 0 (by omega))
theorem szMail_ev (u d : ByteArray) (tos : List LA) (body : List ByteArray) (hu : u.size ≤ 9223372036854775807) (hd : d.size ≤ 9223372036854775807) (ht : tos.length ≤ 9223372036854775807 ∧ ∀ s ∈ tos, s.f0.size ≤ 9223372036854775807 ∧ s.f1.size ≤ 9223372036854775807)
    (hb : body.length ≤ 9223372036854775807 ∧ ∀ s ∈ body, s.size ≤ 9223372036854775807) (a : Int) (h0 : 0 ≤ a) (h1 : a ≤ 1048576) :
    ∃ r, Ev (fun k => laws_szMail.f k u d tos body a) r ∧ r ≤ a ∧ (0 ≤ r → MailB u d (tos.map toIA) body) := by
  unfold laws_szMail.f
  obtain ⟨r, hr, hle, hall⟩ := szAddr_f u d hu hd a h0 h1
  by_cases h : r < 0
  · exact ⟨-1, Ev.bnd (Ev.k hr) (Ev.pos h (Ev.ret _)), by omega, by omega⟩
  · obtain ⟨t, ht', hle2, hall2⟩ := szAddrS_ev tos ht.1 ht.2 r (by omega) (by omega)
    by_cases h' : t < 0
    · exact ⟨-1, Ev.bnd (Ev.k hr) (Ev.neg h (Ev.bnd ht' (Ev.pos h' (Ev.ret _)))), by omega, by omega⟩
    · obtain ⟨q, hq, hle3, hall3⟩ := szStringS_ev body hb.1 hb.2 t (by omega) (by omega)
      by_cases h'' : q < 0
      · exact ⟨-1, Ev.bnd (Ev.k hr) (Ev.neg h (Ev.bnd ht' (Ev.neg h' (Ev.bnd hq (Ev.pos h'' (Ev.ret _)))))), by omega, by omega⟩
      · have e1 := hall (by omega)
        have e2 := hall2 (by omega)
        have e3 := hall3 (by omega)
        refine ⟨q, Ev.bnd (Ev.k hr) (Ev.neg h (Ev.bnd ht' (Ev.neg h' (Ev.bnd hq (Ev.neg h'' (Ev.ret _)))))), by omega, fun _ => ⟨by omega, by omega, ⟨by rw [List.length_map]; omega, fun x hx => ?_⟩, by omega, fun s hs => ?_⟩⟩
        · obtain ⟨y, hy, rfl⟩ := List.mem_map.1 hx
          have := e2.2 y hy
          show y.f0.size ≤ _ ∧ y.f1.size ≤ _
          omega
        · have := e3.2 s hs; omega
theorem toMail_ev {u d : ByteArray} {tos : List LA} {body : List ByteArray} (h : MailB u d (tos.map toIA) body) : Ev (fun k => laws_toMail.f k u d tos body) (u, d, tos.map toIA, body) := by
  unfold laws_toMail.f
  obtain ⟨_, _, ⟨h2, _⟩, h4, _⟩ := h
  rw [List.length_map] at h2
  exact Ev.bnd (Ev.k (show laws_toAddr.f u d = some (u, d) from rfl)) (Ev.bnd (toAddrS_ev tos (by omega)) (Ev.bnd (toStringS_ev body (by omega)) (Ev.ret _)))
theorem eqMail_refl {u d : ByteArray} {tos : List IA} {body : List ByteArray} (h : MailB u d tos body) : Ev (fun k => laws_eqMail.f k u d tos body u d tos body) true := by
  unfold laws_eqMail.f
  obtain ⟨_, _, ⟨h2, _⟩, h4, _⟩ := h
  exact Ev.bnd (Ev.k (eqAddr_refl u d)) (Ev.pos rfl (Ev.bnd (eqAddrS_refl tos (by omega)) (Ev.pos rfl (Ev.bnd (eqStringS_ev body body (by omega)) (Ev.pos (by simp) (Ev.ret _))))))
end Go.Proofs.YtjdpdkdhfnpcgaaGreatDoor.Q
namespace Go.Proofs.YtjdpdkdhfnpcgaaGreatDoor.Q
open Go.RowKit Go.Proofs.YtjdpdkdhfnpcgaaGreatDoorW.PrintWords Go.Proofs.YtjdpdkdhfnpcgaaGreatDoorW.PrintLast Go.Proofs.YtjdpdkdhfnpcgaaGreatDoorW.PrintMore
theorem fnExactNotePut_pure : ∀ (a0_0 : Int) (a0_1 : Int) (a0_2 : ByteArray) (a0_3 : ByteArray) (a0_4 : Int) (a0_5 : ByteArray) (a0_6 : ByteArray) (l0_7 : List LA) (l0_8 : List ByteArray), (Lit.int .i64 a0_0).wf = true → (Lit.int .i64 a0_1).wf = true → a0_2.size ≤ maxLen → a0_3.size ≤ maxLen → (Lit.int .i64 a0_4).wf = true → a0_5.size ≤ maxLen → a0_6.size ≤ maxLen → (l0_7.length ≤ maxLen ∧ ∀ z ∈ l0_7, (z.f0.size ≤ maxLen ∧ z.f1.size ≤ maxLen)) → (l0_8.length ≤ maxLen ∧ ∀ z ∈ l0_8, z.size ≤ maxLen) → ∃ k, laws_FnExactNotePut.f k a0_0 a0_1 a0_2 a0_3 a0_4 a0_5 a0_6 l0_7 l0_8 = some true := by
  intro kind id u d now fu fd tos body _ _ h2 h3 _ h5 h6 h7 h8
  unfold maxLen at h2 h3 h5 h6 h7 h8
  refine Ev.ex ?_
  unfold laws_FnExactNotePut.f
  obtain ⟨q, hq, hle, hall0⟩ := szAddr_f u d h2 h3 1048576 (by omega) (by omega)
  by_cases h0 : q < 0
  · exact Ev.bnd (a := -1) (by unfold laws_szNote.f; exact Ev.bnd (Ev.k hq) (Ev.pos h0 (Ev.ret _))) (Ev.pos (by omega) (Ev.ret _))
  obtain ⟨r, hr, _, hall⟩ := szMail_ev fu fd tos body h5 h6 h7 h8 q (by omega) (by omega)
  by_cases h : r < 0
  · exact Ev.bnd (a := -1) (by unfold laws_szNote.f; exact Ev.bnd (Ev.k hq) (Ev.neg h0 (Ev.bnd hr (Ev.pos h (Ev.ret _))))) (Ev.pos (by omega) (Ev.ret _))
  · have hz : Ev (fun k => laws_szNote.f k kind id u d now fu fd tos body 1048576) r := by
      unfold laws_szNote.f
      exact Ev.bnd (Ev.k hq) (Ev.neg h0 (Ev.bnd hr (Ev.neg h (Ev.ret _))))
    have hud := hall0 (by omega)
    have hB := hall (by omega)
    have hto : Ev (fun k => laws_toNote.f k kind id u d now fu fd tos body) (kind, id, u, d, now, fu, fd, tos.map toIA, body) := by
      unfold laws_toNote.f
      exact Ev.bnd (Ev.k (show laws_toAddr.f u d = some (u, d) from rfl)) (Ev.bnd (toMail_ev hB) (Ev.ret _))
    have he : Ev (fun k => laws_eqNote.f k kind id u d now fu fd (tos.map toIA) body kind id u d now fu fd (tos.map toIA) body) true := by
      unfold laws_eqNote.f
      exact Ev.pos rfl (Ev.pos rfl (Ev.bnd (Ev.k (eqAddr_refl u d)) (Ev.pos rfl (Ev.pos rfl (Ev.bnd (eqMail_refl hB) (Ev.pos rfl (Ev.ret _)))))))
    have hs := specNotePut_ev (kind := kind) (id := id) (u := u) (d := d) (now := now) (by omega) (by omega) hB
    have hi := implNotePut_ev (kind := kind) (id := id) (u := u) (d := d) (now := now) (by omega) (by omega) hB
    exact Ev.bnd hz (Ev.neg h (Ev.bnd hto (Ev.bnd hs (Ev.bnd hto (Ev.bnd hi (Ev.pos rfl (Ev.bnd hto (Ev.bnd he (Ev.pos rfl (Ev.ret _))))))))))
end Go.Proofs.YtjdpdkdhfnpcgaaGreatDoor.Q
