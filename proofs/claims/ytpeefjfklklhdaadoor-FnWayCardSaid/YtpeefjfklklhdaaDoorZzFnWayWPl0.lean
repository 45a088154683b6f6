/- Of texts of ours what this claim needs. -/
import Derived.Test.YtpeefjfklklhdaaDoorZzFnWayWQ0
import Derived.Lib.Index
import Derived.Lib.IndexMore
import Derived.Lib.Strings
import Derived.Test.YtpeefjfklklhdaaDoorZzFnWayWHSplit
import Derived.Lib.SplitLaws
import Derived.Lib.IndexLaws
import Derived.Test.YtpeefjfklklhdaaDoorZzFnWayWQ4
import Derived.Test.YtpeefjfklklhdaaDoorZzFnWayWQ5
import Derived.Test.YtpeefjfklklhdaaDoorZzFnWayWQ3
import Derived.Test.YtpeefjfklklhdaaDoorZzFnWayWQ8
import Derived.Test.YtpeefjfklklhdaaDoorZzFnWayWQ24
import Derived.Test.YtpeefjfklklhdaaDoorZzFnWayWQ22
import Derived.Test.YtpeefjfklklhdaaDoorZzFnWayWQ34
import Derived.Test.YtpeefjfklklhdaaDoorZzFnWayWQ33
import Derived.Test.YtpeefjfklklhdaaDoorZzFnWayWQ2
import Derived.Test.YtpeefjfklklhdaaDoorZzFnWayWQ36
import Derived.Test.YtpeefjfklklhdaaDoorZzFnWayWQ16
import Derived.Test.YtpeefjfklklhdaaDoorZzFnWayWQ29
import Derived.Test.YtpeefjfklklhdaaDoorZzFnWayWQ31
import Derived.Test.YtpeefjfklklhdaaDoorZzFnWayWQ32
import Derived.Test.YtpeefjfklklhdaaDoorZzFnWayWQ37
namespace Go.Proofs.YtpeefjfklklhdaaDoor.Q
open Go.RowKit Go.Proofs.YtpeefjfklklhdaaDoorW.PrintWords Go.Proofs.YtpeefjfklklhdaaDoorW.PrintLast Go.Proofs.YtpeefjfklklhdaaDoorW.PrintMore
set_option linter.unusedVariables false
set_option linter.unusedSimpArgs false
section rounds
variable {α β : Type} {g g' f : Nat → Option α} {r : α}
theorem Ev.pos {c : Prop} [Decidable c] (h : c) (e : Ev g r) : Ev (fun k => if c then g k else g' k) r := by
  obtain ⟨K, hK⟩ := e
  exact ⟨K, fun k hk => (if_pos h).trans (hK k hk)⟩
theorem Ev.neg {c : Prop} [Decidable c] (h : ¬ c) (e : Ev g' r) : Ev (fun k => if c then g k else g' k) r := by
  obtain ⟨K, hK⟩ := e
  exact ⟨K, fun k hk => (if_neg h).trans (hK k hk)⟩
theorem Ev.ret (r : α) : Ev (fun _ => some r) r := ⟨0, fun _ _ => rfl⟩
theorem Ev.k {x : Option α} (h : x = some r) : Ev (fun _ => x) r := ⟨0, fun _ _ => h⟩
theorem Ev.bnd {h : Nat → Option α} {F : Nat → α → Option β} {a : α} {r : β} (e : Ev h a) (k : Ev (fun n => F n a) r) : Ev (fun n => (h n).bind (F n)) r := Ev.bind e k
theorem Ev.eq {r' : α} (e : Ev g r) (h : r = r') : Ev g r' := h ▸ e
theorem Ev.ex (h : Ev g r) : ∃ k, g k = some r := by
  obtain ⟨K, hK⟩ := h
  exact ⟨K, hK K (Nat.le_refl _)⟩
end rounds
theorem w64 {x : Int} (h0 : -9223372036854775808 ≤ x) (h1 : x ≤ 9223372036854775807) : wrap64 x = x := by unfold wrap64; omega
theorem wsucc {i : Nat} (h : i ≤ 9223372036854775806) : wrap64 ((i : Int) + 1) = ((i + 1 : Nat) : Int) := by rw [w64 (by omega) (by omega)]; omega
theorem wf_u8 {x : Int} (h : (Lit.int .u8 x).wf = true) : 0 ≤ x ∧ x ≤ 255 := by
  simpa [Lit.wf, IntKind.min, IntKind.max, IntKind.signed, IntKind.bits] using h
abbrev LL (s : ByteArray) : List UInt8 := s.data.toList
abbrev BB (l : List UInt8) : ByteArray := ⟨l.toArray⟩
theorem BB_LL (s : ByteArray) : BB (LL s) = s := by cases s; simp
theorem LL_BB (l : List UInt8) : LL (BB l) = l := by simp
theorem LL_inj {a b : ByteArray} (h : LL a = LL b) : a = b := by rw [← BB_LL a, ← BB_LL b, h]
theorem toList_LL (s : ByteArray) : s.toList = LL s := Lib.toList_data s
theorem toList_eq {a b : ByteArray} : a.toList = b.toList ↔ a = b := by
  rw [toList_LL, toList_LL]
  exact ⟨LL_inj, fun h => by rw [h]⟩
theorem toList_beq (a b : ByteArray) : (a.toList == b.toList) = decide (a = b) := by
  by_cases h : a = b
  · subst h; simp
  · rw [decide_eq_false h, beq_eq_false_iff_ne]
    exact fun e => h (toList_eq.1 e)
theorem toList_BB {a : ByteArray} {l : List UInt8} : a.toList = l ↔ a = BB l := by
  rw [toList_LL]
  constructor
  · intro h; rw [← BB_LL a, h]
  · intro h; rw [h, LL_BB]
theorem size_LL (s : ByteArray) : s.size = (LL s).length := Lib.size_eq s
theorem size_BB (l : List UInt8) : (BB l).size = l.length := by rw [size_LL, LL_BB]
theorem LL_append (a b : ByteArray) : LL (a ++ b) = LL a ++ LL b := by unfold LL; rw [ByteArray.data_append, Array.toList_append]
theorem LL_extract (s : ByteArray) (a b : Nat) : LL (s.extract a b) = ((LL s).drop a).take (b - a) := Lib.extract_data s a b
theorem extract_BB (s : ByteArray) (a b : Nat) : s.extract a b = BB (((LL s).drop a).take (b - a)) := LL_inj (by rw [LL_extract, LL_BB])
theorem size_append (a b : ByteArray) : (a ++ b).size = a.size + b.size := by rw [size_LL, LL_append, List.length_append, ← size_LL, ← size_LL]
theorem bt_get (s : ByteArray) (i : Nat) (h : i < s.size) : ∃ c, (LL s)[i]? = some c ∧ bt s (i : Int) = (c.toNat : Int) := by
  have hl : i < (LL s).length := by rw [← size_LL]; exact h
  refine ⟨(LL s)[i], List.getElem?_eq_getElem hl, ?_⟩
  unfold bt
  simp only [Int.toNat_natCast]
  rw [dif_pos h]
  rfl
theorem drop_bt (s : ByteArray) (i : Nat) (h : i < s.size) : ∃ c, (LL s).drop i = c :: (LL s).drop (i + 1) ∧ bt s (i : Int) = (c.toNat : Int) := by
  obtain ⟨c, hc, hb⟩ := bt_get s i h
  have hl : i < (LL s).length := by rw [← size_LL]; exact h
  refine ⟨c, ?_, hb⟩
  rw [List.drop_eq_getElem_cons hl]
  rw [List.getElem?_eq_getElem hl] at hc
  rw [Option.some.inj hc]
theorem u8_ext {c d : UInt8} (h : c.toNat = d.toNat) : c = d := UInt8.toNat.inj h
theorem rd_get (l : List ByteArray) (i : Nat) (h : i < l.length) : rdOf ByteArray.empty l (i : Int) = l[i] := by
  unfold rdOf
  rw [Int.toNat_natCast, List.getD_eq_getElem?_getD, List.getElem?_eq_getElem h]
  rfl
theorem drop_rd (l : List ByteArray) (i : Nat) (h : i < l.length) : l.drop i = rdOf ByteArray.empty l (i : Int) :: l.drop (i + 1) := by
  rw [rd_get l i h, List.drop_eq_getElem_cons h]
theorem mem_rd (l : List ByteArray) (i : Nat) (h : i < l.length) : rdOf ByteArray.empty l (i : Int) ∈ l := by
  rw [rd_get l i h]
  exact List.getElem_mem h
theorem int_of_nat {i : Int} (h : 0 ≤ i) : ∃ n : Nat, i = (n : Int) := ⟨i.toNat, by omega⟩
end Go.Proofs.YtpeefjfklklhdaaDoor.Q
namespace Go.Proofs.YtpeefjfklklhdaaDoor.Q
open Go.RowKit Go.Proofs.YtpeefjfklklhdaaDoorW.PrintWords Go.Proofs.YtpeefjfklklhdaaDoorW.PrintLast Go.Proofs.YtpeefjfklklhdaaDoorW.PrintMore
set_option linter.unusedVariables false
set_option linter.unusedSimpArgs false
theorem occ1_iff (l : List UInt8) (c : UInt8) (j : Nat) : Lib.occAt l [c] j = true ↔ l[j]? = some c := by
  unfold Lib.occAt
  have e0 : l[j]? = (l.drop j)[0]? := by rw [List.getElem?_drop, Nat.add_zero]
  rw [e0]
  cases l.drop j with
  | nil => simp [List.isPrefixOf]
  | cons a t => simp [List.isPrefixOf]; exact eq_comm
abbrev cuts (c : UInt8) (n : Nat) (l : List UInt8) : List (List UInt8) := Lib.splitK [c] 0 n l
theorem cuts_at {c : UInt8} {n i : Nat} {l : List UInt8} (h : Lib.index l [c] = (i : Int)) : cuts c (n + 1) l = l.take i :: cuts c n (l.drop (i + 1)) := by
  unfold cuts
  rw [Lib.splitK, if_neg (fun e => by have := beq_iff_eq.1 e; omega), h]
  rfl
theorem cuts_none {c : UInt8} {n : Nat} {l : List UInt8} (h : Lib.index l [c] = -1) : cuts c n l = [l] := by
  unfold cuts
  cases n with
  | zero => rfl
  | succ n => rw [Lib.splitK, if_pos (beq_iff_eq.2 h)]
theorem index1_cases (l : List UInt8) (c : UInt8) : Lib.index l [c] = -1 ∨ ∃ i : Nat, Lib.index l [c] = i ∧ i < l.length := by
  rcases Lib.index_spec l [c] with ⟨h, _⟩ | ⟨i, h, _⟩
  · exact .inl h
  · have := Lib.index_room l [c] (by omega)
    simp at this
    exact .inr ⟨i, h, by omega⟩
theorem cuts_hit {c : UInt8} {n i : Nat} {l : List UInt8} (hi : l[i]? = some c) (hno : ∀ j, j < i → l[j]? ≠ some c) : cuts c (n + 1) l = l.take i :: cuts c n (l.drop (i + 1)) := by
  have hil := (List.getElem?_eq_some_iff.1 hi).1
  refine cuts_at (Lib.index_first (by omega) ((occ1_iff l c i).2 hi) (fun j hj => ?_))
  rw [← Bool.not_eq_true, occ1_iff]
  exact hno j hj
theorem cuts_miss {c : UInt8} {n : Nat} {l : List UInt8} (hno : ∀ j : Nat, l[j]? ≠ some c) : cuts c n l = [l] := by
  refine cuts_none ?_
  have : Lib.index l [c] = -1 := Lib.index_none (fun j _ => by rw [← Bool.not_eq_true, occ1_iff]; exact hno j)
  exact this
theorem cuts_len (c : UInt8) : ∀ (n : Nat) (l : List UInt8), (cuts c n l).length = min n (Lib.count l [c]) + 1 := by
  intro n
  induction n with
  | zero => intro l; simp [Lib.splitK]
  | succ n ih =>
    intro l
    rcases index1_cases l c with h | ⟨i, h, _⟩
    · rw [cuts_none h, Lib.count_miss h]; simp
    · rw [cuts_at h, List.length_cons, ih, Lib.count_hit (by simp) h]
      simp only [List.length_cons, List.length_nil, Nat.zero_add]
      omega
theorem cuts_more (c : UInt8) : ∀ (n : Nat) (l : List UInt8), Lib.count l [c] ≤ n → cuts c n l = cuts c (Lib.count l [c]) l := by
  intro n
  induction n with
  | zero => intro l h; rw [show Lib.count l [c] = 0 by omega]
  | succ n ih =>
    intro l h
    rcases index1_cases l c with hm | ⟨i, hm, _⟩
    · rw [cuts_none hm, cuts_none hm]
    · have e := Lib.count_hit (s := l) (sub := [c]) (by simp) hm
      simp only [List.length_cons, List.length_nil, Nat.zero_add] at e
      rw [cuts_at hm, e, Nat.add_comm 1, cuts_at hm, ih _ (by omega)]
theorem splitL_eq (s : ByteArray) (c : UInt8) : splitL s ⟨#[c]⟩ = (cuts c (Lib.count (LL s) [c]) (LL s)).map BB := by
  have h := Lib.splitB_data ⟨#[c]⟩ 0 (Lib.countB s ⟨#[c]⟩) s
  have e : (splitL s ⟨#[c]⟩).map LL = cuts c (Lib.count (LL s) [c]) (LL s) := h
  rw [← e, List.map_map]
  conv => lhs; rw [← List.map_id (splitL s ⟨#[c]⟩)]
  exact List.map_congr_left (fun x _ => (BB_LL x).symm)
theorem splitL_len (s : ByteArray) (c : UInt8) : (splitL s ⟨#[c]⟩).length ≤ s.size + 1 := by
  unfold splitL
  have h1 := Lib.splitB_length_le ⟨#[c]⟩ 0 (Lib.countB s ⟨#[c]⟩) s
  have h2 := Lib.countB_le ⟨#[c]⟩ (Nat.le_refl 1) s.size s (Nat.le_refl _)
  omega
theorem l1Cut_loop (s : ByteArray) (c : UInt8) (n : Nat) (hn : n ≤ 1000000) (hm : s.size ≤ 1099511627776) : ∀ d i : Nat, i + d = s.size → ∀ (out : List ByteArray) (a m : Nat), a ≤ i → out.length + m = n → (∀ j, a ≤ j → j < i → (LL s)[j]? ≠ some c) →
    Ev (fun k => spec_l1Cut.l0 k s (c.toNat : Int) (n : Int) out (a : Int) (i : Int)) (out ++ (cuts c m ((LL s).drop a)).map BB) := by
  have hsz := size_LL s
  have hlast : ∀ (out : List ByteArray) (a i : Nat), a ≤ s.size → out.length ≤ 1000000 → Ev (fun k => spec_l1Cut.j1 k s (c.toNat : Int) (n : Int) out (a : Int) (i : Int) false) (out ++ [BB ((LL s).drop a)]) := by
    intro out a i ha ho
    refine Ev.step (fun k => by rw [spec_l1Cut.j1]) ?_
    refine Ev.neg (by simp) (Ev.pos (by omega) (Ev.pos (by omega) (Ev.pos (by omega) (Ev.eq (Ev.ret _) ?_))))
    rw [Int.toNat_natCast, extract_BB, List.take_of_length_le (by rw [List.length_drop]; omega)]
  intro d
  induction d with
  | zero =>
    intro i hi out a m hai hom hno
    refine Ev.step (fun k => by rw [spec_l1Cut.l0]) ?_
    refine Ev.neg (by omega) ?_
    rw [cuts_miss (fun j => ?_)]
    · exact hlast out a i (by omega) (by omega)
    · rw [List.getElem?_drop]
      by_cases hj : a + j < i
      · exact hno _ (by omega) hj
      · rw [List.getElem?_eq_none (by omega)]; simp
  | succ d ih =>
    intro i hi out a m hai hom hno
    refine Ev.step (fun k => by rw [spec_l1Cut.l0]) ?_
    refine Ev.pos (by omega) ?_
    cases m with
    | zero =>
      rw [show (decide ((out.length : Int) < (n : Int))) = false by rw [decide_eq_false_iff_not]; omega]
      exact hlast out a i (by omega) (by omega)
    | succ m =>
      rw [show (decide ((out.length : Int) < (n : Int))) = true by rw [decide_eq_true_eq]; omega]
      refine Ev.step (fun k => by rw [spec_l1Cut.j1]) ?_
      refine Ev.pos rfl (Ev.pos (by omega) (Ev.pos (by omega) ?_))
      obtain ⟨b, hb, hbt⟩ := bt_get s i (by omega)
      rw [hbt, wsucc (by omega)]
      by_cases h : b = c
      · subst h
        refine Ev.pos rfl (Ev.pos (by omega) (Ev.pos (by omega) (Ev.pos (by omega) (Ev.pos (by omega) ?_))))
        have e := cuts_hit (c := b) (n := m) (i := i - a) (l := (LL s).drop a) (by rw [List.getElem?_drop, show a + (i - a) = i by omega]; exact hb) (fun j hj => by rw [List.getElem?_drop]; exact hno _ (by omega) (by omega))
        rw [e, List.drop_drop, show a + (i - a + 1) = i + 1 by omega]
        refine Ev.eq (ih (i + 1) (by omega) _ (i + 1) m (Nat.le_refl _) (by simp; omega) (fun j h1 h2 => by omega)) ?_
        rw [Int.toNat_natCast, Int.toNat_natCast, extract_BB, List.append_assoc]
        rfl
      · refine Ev.neg (fun e => h (u8_ext (by omega))) ?_
        refine ih (i + 1) (by omega) out a (m + 1) (by omega) hom (fun j h1 h2 => ?_)
        by_cases hj : j < i
        · exact hno j h1 hj
        · rw [show j = i by omega, hb]
          simpa using h
theorem l1Cut_ev (s : ByteArray) (c : UInt8) (n : Nat) (hn : n ≤ 1000000) (hm : s.size ≤ 1099511627776) : Ev (fun k => spec_l1Cut.f k s (c.toNat : Int) (n : Int)) ((cuts c n (LL s)).map BB) := by
  have := l1Cut_loop s c n hn hm s.size 0 (by omega) [] 0 n (Nat.le_refl _) (by simp) (fun j _ h => by omega)
  exact this
def wordCh (b : UInt8) : Bool := decide (97 ≤ b.toNat ∧ b.toNat ≤ 122) || decide (48 ≤ b.toNat ∧ b.toNat ≤ 57)
def wordL (l : List UInt8) : Bool := l.all wordCh && decide (1 ≤ l.length ∧ l.length ≤ 8)
theorem l1In_ev (a b c : Int) : spec_l1In.f a b c = some (decide (b ≤ a ∧ a ≤ c)) := by
  unfold spec_l1In.f
  by_cases h : a ≥ b
  · rw [if_pos h]
    congr 1
    rw [decide_eq_decide]
    omega
  · rw [if_neg h]
    congr 1
    symm
    rw [decide_eq_false_iff_not]
    omega
theorem within_ev (a b c : Int) : impl_within.f a b c = some (decide (b ≤ a ∧ a ≤ c)) := l1In_ev a b c
theorem l1Word_loop (s : ByteArray) (hm : s.size ≤ 9223372036854775807) : ∀ d i : Nat, i + d = s.size → Ev (fun k => spec_l1Word.l0 k s (i : Int)) (((LL s).drop i).all wordCh && decide (1 ≤ (LL s).length ∧ (LL s).length ≤ 8)) := by
  have hsz := size_LL s
  intro d
  induction d with
  | zero =>
    intro i hi
    refine Ev.step (fun k => by rw [spec_l1Word.l0]) ?_
    refine Ev.neg (by omega) (Ev.bnd (Ev.k (l1In_ev _ _ _)) (Ev.eq (Ev.ret _) ?_))
    rw [List.drop_of_length_le (by omega), List.all_nil, Bool.true_and, decide_eq_decide]
    omega
  | succ d ih =>
    intro i hi
    obtain ⟨c, hc, hb⟩ := drop_bt s i (by omega)
    have := ih (i + 1) (by omega)
    refine Ev.step (fun k => by rw [spec_l1Word.l0]) ?_
    refine Ev.pos (by omega) (Ev.pos (by omega) ?_)
    rw [hb, hc, List.all_cons, wsucc (by omega)]
    by_cases h : wordCh c = true
    · rw [h, Bool.true_and]
      unfold wordCh at h
      simp only [Bool.or_eq_true, decide_eq_true_eq] at h
      by_cases h1 : (c.toNat : Int) < 97
      · exact Ev.pos h1 (Ev.neg (by omega) (Ev.neg (by omega) this))
      · exact Ev.neg h1 (Ev.neg (by omega) this)
    · rw [Bool.not_eq_true] at h
      rw [h, Bool.false_and, Bool.false_and]
      unfold wordCh at h
      simp only [Bool.or_eq_false_iff, decide_eq_false_iff_not] at h
      by_cases h1 : (c.toNat : Int) < 97
      · refine Ev.pos h1 ?_
        by_cases h2 : (c.toNat : Int) < 48
        · exact Ev.pos h2 (Ev.ret _)
        · exact Ev.neg h2 (Ev.pos (by omega) (Ev.ret _))
      · exact Ev.neg h1 (Ev.pos (by omega) (Ev.neg (by omega) (Ev.pos (by omega) (Ev.ret _))))
theorem l1Word_ev (s : ByteArray) (hm : s.size ≤ 9223372036854775807) : Ev (fun k => spec_l1Word.f k s) (wordL (LL s)) := l1Word_loop s hm s.size 0 (by omega)
theorem dropWhile_nil (p : UInt8 → Bool) (l : List UInt8) : l.dropWhile p = [] ↔ ∀ x ∈ l, p x = true := by
  induction l with
  | nil => simp
  | cons a t ih =>
    rw [List.dropWhile_cons]
    by_cases h : p a = true
    · rw [if_pos h, ih]
      constructor
      · intro e x hx
        rcases List.mem_cons.1 hx with q | hx
        · rw [q]; exact h
        · exact e x hx
      · intro e x hx
        exact e x (List.mem_cons_of_mem _ hx)
    · rw [if_neg h]
      constructor
      · intro e; cases e
      · intro e; exact absurd (e a (List.mem_cons_self ..)) h
theorem trimS_nil (l cs : List UInt8) : Lib.trimS l cs = [] ↔ l.all (cs.contains ·) = true := by
  unfold Lib.trimS Lib.trimLeftS Lib.trimRightS
  rw [dropWhile_nil]
  constructor
  · intro h
    have : l.reverse.dropWhile (cs.contains ·) = [] := by
      cases e : l.reverse.dropWhile (cs.contains ·) with
      | nil => rfl
      | cons y t =>
        have h1 := h y (by rw [e]; simp)
        have h2 := List.head_dropWhile_not (p := (cs.contains ·)) (l := l.reverse) (by rw [e]; simp)
        simp only [e, List.head_cons] at h2
        rw [h1] at h2
        cases h2
    rw [dropWhile_nil] at this
    rw [List.all_eq_true]
    exact fun x hx => this x (List.mem_reverse.2 hx)
  · intro h x hx
    rw [List.all_eq_true] at h
    have : x ∈ l.reverse := (List.dropWhile_sublist _).subset (List.mem_reverse.1 hx)
    exact h x (List.mem_reverse.1 this)
def wordCs : List UInt8 := [97, 98, 99, 100, 101, 102, 103, 104, 105, 106, 107, 108, 109, 110, 111, 112, 113, 114, 115, 116, 117, 118, 119, 120, 121, 122, 48, 49, 50, 51, 52, 53, 54, 55, 56, 57]
theorem wordCs_all : ∀ n : Fin 256, wordCs.contains (UInt8.ofNat n.val) = wordCh (UInt8.ofNat n.val) := by decide +kernel
theorem wordCs_ok (b : UInt8) : wordCs.contains b = wordCh b := by
  have := wordCs_all ⟨b.toNat, b.toNat_lt⟩
  simpa using this
theorem isLabel_f (s : ByteArray) (hm : s.size ≤ 9223372036854775807) : impl_isLabel.f s = some (wordL (LL s)) := by
  have hsz := size_LL s
  unfold impl_isLabel.f wordL
  rw [within_ev]
  simp only [Option.bind_some]
  by_cases h : (1 : Int) ≤ (s.size : Int) ∧ (s.size : Int) ≤ 8
  · rw [if_pos (by simpa using h)]
    have ht : strings_Trim.f s (⟨#[97, 98, 99, 100, 101, 102, 103, 104, 105, 106, 107, 108, 109, 110, 111, 112, 113, 114, 115, 116, 117, 118, 119, 120, 121, 122, 48, 49, 50, 51, 52, 53, 54, 55, 56, 57]⟩ : ByteArray) = some (BB (Lib.trimS (LL s) wordCs)) := by
      unfold strings_Trim.f
      rw [if_pos ⟨hm, by decide, by decide⟩]
      rfl
    rw [ht]
    simp only [Option.bind_some]
    rw [show decide (1 ≤ (LL s).length ∧ (LL s).length ≤ 8) = true by rw [decide_eq_true_eq]; omega, Bool.and_true]
    congr 1
    rw [Bool.eq_iff_iff, beq_iff_eq, toList_BB]
    have e : BB (Lib.trimS (LL s) wordCs) = BB [] ↔ Lib.trimS (LL s) wordCs = [] := ⟨fun e => by have := congrArg LL e; rw [LL_BB, LL_BB] at this; exact this, fun e => by rw [e]⟩
    rw [e, trimS_nil]
    have : (fun x => wordCs.contains x) = wordCh := funext wordCs_ok
    rw [this]
  · rw [if_neg (by simpa using h)]
    rw [show decide (1 ≤ (LL s).length ∧ (LL s).length ≤ 8) = false by rw [decide_eq_false_iff_not]; omega, Bool.and_false]
def domL (l : List UInt8) : Bool := (cuts 46 3 l).all wordL && decide ((cuts 46 3 l).length ≤ 3)
theorem domL_all (l : List UInt8) : domL l = ((cuts 46 (Lib.count l [46]) l).all wordL && decide ((cuts 46 (Lib.count l [46]) l).length ≤ 3)) := by
  unfold domL
  by_cases h : Lib.count l [46] ≤ 3
  · rw [cuts_more 46 3 l h]
  · have e1 := cuts_len 46 3 l
    have e2 := cuts_len 46 (Lib.count l [46]) l
    rw [show decide ((cuts 46 3 l).length ≤ 3) = false by rw [decide_eq_false_iff_not]; omega, show decide ((cuts 46 (Lib.count l [46]) l).length ≤ 3) = false by rw [decide_eq_false_iff_not]; omega, Bool.and_false, Bool.and_false]
theorem all_drop_rd (x : List ByteArray) (i : Nat) (h : i < x.length) (p : ByteArray → Bool) : (x.drop i).all p = (p (rdOf ByteArray.empty x (i : Int)) && (x.drop (i + 1)).all p) := by rw [drop_rd x i h, List.all_cons]
theorem l1Domain_loop (x : List ByteArray) (hx : x.length ≤ 1000000) (hs : ∀ s ∈ x, s.size ≤ 9223372036854775807) : ∀ d i : Nat, i + d = x.length → Ev (fun k => spec_l1Domain.l0 k x (i : Int)) ((x.drop i).all (fun s => wordL (LL s)) && decide (x.length ≤ 3)) := by
  intro d
  induction d with
  | zero =>
    intro i hi
    refine Ev.step (fun k => by rw [spec_l1Domain.l0]) ?_
    refine Ev.neg (by omega) (Ev.eq (Ev.ret _) ?_)
    rw [List.drop_of_length_le (by omega), List.all_nil, Bool.true_and, decide_eq_decide]
    omega
  | succ d ih =>
    intro i hi
    refine Ev.step (fun k => by rw [spec_l1Domain.l0]) ?_
    refine Ev.pos (by omega) (Ev.pos (by omega) (Ev.bnd (l1Word_ev _ (hs _ (mem_rd x i (by omega)))) ?_))
    rw [all_drop_rd x i (by omega), wsucc (by omega)]
    by_cases h : wordL (LL (rdOf ByteArray.empty x (i : Int))) = true
    · refine Ev.pos h (Ev.eq (ih (i + 1) (by omega)) ?_)
      rw [h, Bool.true_and]
    · refine Ev.neg h (Ev.eq (Ev.ret _) ?_)
      rw [Bool.not_eq_true] at h
      rw [h, Bool.false_and, Bool.false_and]
theorem cuts_size (c : UInt8) : ∀ (n : Nat) (l : List UInt8), ∀ p ∈ cuts c n l, p.length ≤ l.length := by
  intro n
  induction n with
  | zero => intro l p hp; rw [List.mem_singleton.1 hp]; exact Nat.le_refl _
  | succ n ih =>
    intro l p hp
    rcases index1_cases l c with h | ⟨i, h, _⟩
    · rw [cuts_none h] at hp
      rw [List.mem_singleton.1 hp]; exact Nat.le_refl _
    · rw [cuts_at h] at hp
      rcases List.mem_cons.1 hp with rfl | hp
      · rw [List.length_take]; omega
      · have := ih _ p hp
        rw [List.length_drop] at this
        omega
theorem l1Domain_ev (s : ByteArray) (hm : s.size ≤ 1099511627776) : Ev (fun k => spec_l1Domain.f k s) (domL (LL s)) := by
  have hsz := size_LL s
  unfold spec_l1Domain.f
  refine Ev.bnd (l1Cut_ev s 46 3 (by omega) hm) ?_
  have hl := cuts_len 46 3 (LL s)
  have := l1Domain_loop ((cuts 46 3 (LL s)).map BB) (by rw [List.length_map]; omega) (fun t ht => by
    obtain ⟨u, hu, rfl⟩ := List.mem_map.1 ht
    have := cuts_size 46 3 (LL s) u hu
    rw [size_BB]
    omega) _ 0 (by simp; rfl)
  refine Ev.eq this ?_
  unfold domL
  rw [List.drop_zero, List.all_map, List.length_map]
  rfl
theorem implDomainOk_loop (x3 x : List ByteArray) (h3 : x3.length ≤ 1099511627777) (hx : x.length ≤ 1099511627777) (hs : ∀ s ∈ x, s.size ≤ 9223372036854775807) : ∀ d i : Nat, i + d = x.length → Ev (fun k => impl_DomainOk.l0 k x3 x (x.length : Int) (i : Int)) ((x.drop i).all (fun s => wordL (LL s)) && decide (x3.length ≤ 3)) := by
  intro d
  induction d with
  | zero =>
    intro i hi
    refine Ev.step (fun k => by rw [impl_DomainOk.l0]) ?_
    refine Ev.neg (by omega) (Ev.eq (Ev.ret _) ?_)
    rw [List.drop_of_length_le (by omega), List.all_nil, Bool.true_and, decide_eq_decide]
    omega
  | succ d ih =>
    intro i hi
    refine Ev.step (fun k => by rw [impl_DomainOk.l0]) ?_
    refine Ev.pos (by omega) (Ev.pos (by omega) (Ev.pos (by omega) (Ev.bnd (Ev.k (isLabel_f _ (hs _ (mem_rd x i (by omega))))) ?_)))
    rw [all_drop_rd x i (by omega), wsucc (by omega)]
    by_cases h : wordL (LL (rdOf ByteArray.empty x (i : Int))) = true
    · refine Ev.pos h (Ev.eq (ih (i + 1) (by omega)) ?_)
      rw [h, Bool.true_and]
    · refine Ev.neg h (Ev.eq (Ev.ret _) ?_)
      rw [Bool.not_eq_true] at h
      rw [h, Bool.false_and, Bool.false_and]
theorem implDomainOk_ev (s : ByteArray) (hm : s.size ≤ 4294967280) : Ev (fun k => impl_DomainOk.f k s) (domL (LL s)) := by
  have hsz := size_LL s
  unfold impl_DomainOk.f
  have hl := splitL_len s 46
  have hf : strings_Split.f s ⟨#[46]⟩ = some (splitL s ⟨#[46]⟩) := by
    unfold strings_Split.f
    rw [if_pos ⟨by omega, by decide, by omega⟩]
  refine Ev.bnd (Ev.k hf) ?_
  have hmem : ∀ t ∈ splitL s ⟨#[46]⟩, t.size ≤ 9223372036854775807 := fun t ht => by
    rw [splitL_eq] at ht
    obtain ⟨u, hu, rfl⟩ := List.mem_map.1 ht
    have := cuts_size 46 _ (LL s) u hu
    rw [size_BB]
    omega
  refine Ev.eq (implDomainOk_loop _ (splitL s ⟨#[46]⟩) (by omega) (by omega) hmem _ 0 (by simp; rfl)) ?_
  rw [domL_all, List.drop_zero, splitL_eq, List.all_map, List.length_map]
  rfl
def endsL (a b : List UInt8) : Bool := decide (a = b) || decide (b.length < a.length ∧ a.drop (a.length - b.length - 1) = 46 :: b)
theorem l1Ends_f (a b : ByteArray) (ha : a.size ≤ 1099511627776) (hb : b.size ≤ 1099511627776) : spec_l1Ends.f a b = some (endsL (LL a) (LL b)) := by
  have hsa := size_LL a
  have hsb := size_LL b
  unfold spec_l1Ends.f endsL
  rw [w64 (x := (a.size : Int) - (b.size : Int)) (by omega) (by omega)]
  by_cases h : a = b
  · subst h
    rw [if_pos rfl]
    simp
  · rw [if_neg (fun e => h (toList_eq.1 e)), show decide (LL a = LL b) = false by rw [decide_eq_false_iff_not]; exact fun e => h (LL_inj e), Bool.false_or]
    by_cases h1 : (a.size : Int) - (b.size : Int) > 0
    · rw [if_pos h1, if_pos (by omega), if_pos (by omega), w64 (x := (a.size : Int) - (b.size : Int) - 1) (by omega) (by omega)]
      obtain ⟨m, hm⟩ : ∃ m : Nat, a.size = b.size + 1 + m := ⟨a.size - b.size - 1, by omega⟩
      have e1 : ((a.size : Int) - (b.size : Int)).toNat = m + 1 := by omega
      have e2 : (a.size : Int) - (b.size : Int) - 1 = (m : Int) := by omega
      have e3 : (LL a).length - (LL b).length - 1 = m := by omega
      rw [e1, e2, e3]
      obtain ⟨c, hc, hbt⟩ := drop_bt a m (by omega)
      rw [hbt, hc]
      have hx : (a.extract (m + 1) a.size).toList = b.toList ↔ (LL a).drop (m + 1) = LL b := by
        rw [toList_LL, toList_LL, LL_extract, List.take_of_length_le (by rw [List.length_drop]; omega)]
      by_cases h2 : (LL a).drop (m + 1) = LL b
      · rw [if_pos (hx.2 h2), if_pos (by omega), if_pos (by omega)]
        congr 1
        rw [Bool.eq_iff_iff, beq_iff_eq, decide_eq_true_eq, h2]
        constructor
        · intro e
          exact ⟨by omega, by rw [show c = 46 from u8_ext (by simp; omega)]⟩
        · intro e
          have := (List.cons.inj e.2).1
          rw [this]; rfl
      · rw [if_neg (fun e => h2 (hx.1 e))]
        congr 1
        symm
        rw [decide_eq_false_iff_not]
        exact fun e => h2 (List.cons.inj e.2).2
    · rw [if_neg h1]
      congr 1
      symm
      rw [decide_eq_false_iff_not]
      omega
theorem hasSuffix_f (a b : ByteArray) (ha : a.size ≤ 9223372036854775807) (hb : b.size ≤ 9223372036854775807) : strings_HasSuffix.f a b = some (decide (b.size ≤ a.size ∧ (LL a).drop (a.size - b.size) = LL b)) := by
  have hsa := size_LL a
  have hsb := size_LL b
  unfold strings_HasSuffix.f stringslite_HasSuffix.f
  by_cases h : (a.size : Int) ≥ (b.size : Int)
  · rw [if_pos h, w64 (x := (a.size : Int) - (b.size : Int)) (by omega) (by omega), if_pos (by omega), if_pos (by omega)]
    simp only [Option.bind_some]
    congr 1
    rw [Bool.eq_iff_iff, beq_iff_eq, decide_eq_true_eq, toList_LL, toList_LL, LL_extract, show ((a.size : Int) - (b.size : Int)).toNat = a.size - b.size by omega, List.take_of_length_le (by rw [List.length_drop]; omega)]
    exact ⟨fun e => ⟨by omega, e⟩, fun e => e.2⟩
  · rw [if_neg h]
    simp only [Option.bind_some]
    congr 1
    symm
    rw [decide_eq_false_iff_not]
    omega
theorem endsL_suffix (a b : ByteArray) : endsL (LL a) (LL b) = (decide (a = b) || decide (1 + b.size ≤ a.size ∧ (LL a).drop (a.size - (1 + b.size)) = 46 :: LL b)) := by
  have hsa := size_LL a
  have hsb := size_LL b
  unfold endsL
  congr 1
  · rw [decide_eq_decide]
    exact ⟨fun e => LL_inj e, fun e => by rw [e]⟩
  · rw [decide_eq_decide, show (LL a).length - (LL b).length - 1 = a.size - (1 + b.size) by omega]
    constructor
    · intro e; exact ⟨by omega, e.2⟩
    · intro e; exact ⟨by omega, e.2⟩
end Go.Proofs.YtpeefjfklklhdaaDoor.Q
namespace Go.Proofs.YtpeefjfklklhdaaDoor.Q
open Go.RowKit Go.Proofs.YtpeefjfklklhdaaDoorW.PrintWords Go.Proofs.YtpeefjfklklhdaaDoorW.PrintLast Go.Proofs.YtpeefjfklklhdaaDoorW.PrintMore
set_option linter.unusedVariables false
set_option linter.unusedSimpArgs false
abbrev IW := S69
theorem rdIW (l : List IW) (i : Nat) (h : i < l.length) : rd_T69 l (i : Int) = l[i] := by
  unfold rd_T69
  rw [Int.toNat_natCast, List.getD_eq_getElem?_getD, List.getElem?_eq_getElem h]
  rfl
def wayL (w : IW) : Bool := domL (LL w.f0) && domL (LL w.f1)
def ownL (s : ByteArray) : Bool := domL (LL s)
def confL (n : ByteArray) (own : List ByteArray) (ways : List IW) : Bool := own.all ownL && ways.all wayL && ownL n && decide (own.length ≤ 3) && decide (ways.length ≤ 4)
theorem l3ConfOk_loop1 (n : ByteArray) (own : List ByteArray) (ways : List IW) (hn : n.size ≤ 1099511627776) (hm : ways.length ≤ 1099511627776) (hs : ∀ s ∈ ways, s.f0.size ≤ 1099511627776 ∧ s.f1.size ≤ 1099511627776) : ∀ d i : Nat, i + d = ways.length →
    Ev (fun k => spec_l3ConfOk.l1 k (i : Int) n own ways) ((ways.drop i).all wayL && ownL n && decide (own.length ≤ 3) && decide (ways.length ≤ 4)) := by
  intro d
  induction d with
  | zero =>
    intro i hi
    rw [List.drop_of_length_le (by omega), List.all_nil, Bool.true_and]
    refine Ev.step (fun k => by rw [spec_l3ConfOk.l1]) ?_
    refine Ev.neg (by omega) (Ev.bnd (l1Domain_ev n hn) ?_)
    by_cases h1 : domL (LL n) = true
    · refine Ev.pos h1 ?_
      have e1 : ownL n = true := h1
      rw [e1, Bool.true_and]
      by_cases h2 : (own.length : Int) ≤ 3
      · refine Ev.pos h2 (Ev.eq (Ev.ret _) ?_)
        rw [show decide (own.length ≤ 3) = true by rw [decide_eq_true_eq]; omega, Bool.true_and, decide_eq_decide]
        omega
      · refine Ev.neg h2 (Ev.eq (Ev.ret _) ?_)
        rw [show decide (own.length ≤ 3) = false by rw [decide_eq_false_iff_not]; omega, Bool.false_and]
    · refine Ev.neg h1 (Ev.eq (Ev.ret _) ?_)
      rw [Bool.not_eq_true] at h1
      have e1 : ownL n = false := h1
      rw [e1]
      simp
  | succ d ih =>
    intro i hi
    have hil : i < ways.length := by omega
    obtain ⟨z0, z1⟩ := hs ways[i] (List.getElem_mem hil)
    rw [List.drop_eq_getElem_cons hil, List.all_cons]
    refine Ev.step (fun k => by rw [spec_l3ConfOk.l1]) ?_
    refine Ev.pos (by omega) (Ev.pos (by omega) ?_)
    rw [rdIW ways i hil, wsucc (by omega)]
    refine Ev.bnd (l1Domain_ev _ z0) ?_
    by_cases h1 : domL (LL ways[i].f0) = true
    · refine Ev.pos h1 (Ev.bnd (l1Domain_ev _ z1) ?_)
      by_cases h2 : domL (LL ways[i].f1) = true
      · refine Ev.pos h2 (Ev.eq (ih (i + 1) (by omega)) ?_)
        have : wayL ways[i] = true := by unfold wayL; rw [h1, h2]; rfl
        rw [this, Bool.true_and]
      · refine Ev.neg h2 (Ev.eq (Ev.ret _) ?_)
        rw [Bool.not_eq_true] at h2
        have : wayL ways[i] = false := by unfold wayL; rw [h1, h2]; rfl
        rw [this]
        simp
    · refine Ev.neg h1 (Ev.eq (Ev.ret _) ?_)
      rw [Bool.not_eq_true] at h1
      have : wayL ways[i] = false := by unfold wayL; rw [h1]; rfl
      rw [this]
      simp
theorem l3ConfOk_loop0 (n : ByteArray) (own : List ByteArray) (ways : List IW) (hn : n.size ≤ 1099511627776) (ho : own.length ≤ 1099511627776) (hos : ∀ s ∈ own, s.size ≤ 1099511627776) (hm : ways.length ≤ 1099511627776) (hs : ∀ s ∈ ways, s.f0.size ≤ 1099511627776 ∧ s.f1.size ≤ 1099511627776) : ∀ d i : Nat, i + d = own.length →
    Ev (fun k => spec_l3ConfOk.l0 k (i : Int) n own ways) ((own.drop i).all ownL && ways.all wayL && ownL n && decide (own.length ≤ 3) && decide (ways.length ≤ 4)) := by
  intro d
  induction d with
  | zero =>
    intro i hi
    rw [List.drop_of_length_le (by omega), List.all_nil, Bool.true_and]
    refine Ev.step (fun k => by rw [spec_l3ConfOk.l0]) ?_
    have := l3ConfOk_loop1 n own ways hn hm hs ways.length 0 (by omega)
    rw [List.drop_zero] at this
    exact Ev.neg (by omega) this
  | succ d ih =>
    intro i hi
    refine Ev.step (fun k => by rw [spec_l3ConfOk.l0]) ?_
    refine Ev.pos (by omega) (Ev.pos (by omega) (Ev.bnd (l1Domain_ev _ (hos _ (mem_rd own i (by omega)))) ?_))
    rw [drop_rd own i (by omega), List.all_cons, wsucc (by omega)]
    by_cases h : domL (LL (rdOf ByteArray.empty own (i : Int))) = true
    · refine Ev.pos h (Ev.eq (ih (i + 1) (by omega)) ?_)
      have : ownL (rdOf ByteArray.empty own (i : Int)) = true := h
      rw [this, Bool.true_and]
    · refine Ev.neg h (Ev.eq (Ev.ret _) ?_)
      rw [Bool.not_eq_true] at h
      have : ownL (rdOf ByteArray.empty own (i : Int)) = false := h
      rw [this]
      simp
theorem l3ConfOk_ev (n : ByteArray) (own : List ByteArray) (ways : List IW) (hn : n.size ≤ 1099511627776) (ho : own.length ≤ 1099511627776) (hos : ∀ s ∈ own, s.size ≤ 1099511627776) (hm : ways.length ≤ 1099511627776) (hs : ∀ s ∈ ways, s.f0.size ≤ 1099511627776 ∧ s.f1.size ≤ 1099511627776) :
    Ev (fun k => spec_l3ConfOk.f k n own ways) (confL n own ways) := by
  have := l3ConfOk_loop0 n own ways hn ho hos hm hs own.length 0 (by omega)
  rw [List.drop_zero] at this
  exact this
theorem ownIndex_loop (l : List ByteArray) (hm : l.length ≤ 1099511627776) (hs : ∀ s ∈ l, s.size ≤ 4294967280) : ∀ d i : Nat, i + d = l.length →
    ∃ r, Ev (fun k => slices_IndexFunc_string_string_at83.l0 k l (l.length : Int) (i : Int)) r ∧ (decide (r ≥ 0) = !(l.drop i).all ownL) := by
  intro d
  induction d with
  | zero =>
    intro i hi
    refine ⟨-1, Ev.step (fun k => by rw [slices_IndexFunc_string_string_at83.l0]) (Ev.neg (by omega) (Ev.ret _)), ?_⟩
    rw [List.drop_of_length_le (by omega)]
    rfl
  | succ d ih =>
    intro i hi
    have hc : Ev (fun k => impl_ConfOk_1.f k (rdOf ByteArray.empty l (i : Int))) (!ownL (rdOf ByteArray.empty l (i : Int))) := Ev.bnd (implDomainOk_ev _ (hs _ (mem_rd l i (by omega)))) (Ev.ret _)
    rw [drop_rd l i (by omega), List.all_cons]
    by_cases h : ownL (rdOf ByteArray.empty l (i : Int)) = true
    · obtain ⟨r, hr, hd⟩ := ih (i + 1) (by omega)
      rw [h] at hc
      refine ⟨r, Ev.step (fun k => by rw [slices_IndexFunc_string_string_at83.l0]) (Ev.pos (by omega) (Ev.pos (by omega) (Ev.pos (by omega) (Ev.bnd hc (Ev.neg (show ¬ ((!true) = true) by decide) ?_))))), by rw [h, Bool.true_and]; exact hd⟩
      rw [wsucc (by omega)]
      exact hr
    · rw [Bool.not_eq_true] at h
      rw [h] at hc
      refine ⟨(i : Int), Ev.step (fun k => by rw [slices_IndexFunc_string_string_at83.l0]) (Ev.pos (by omega) (Ev.pos (by omega) (Ev.pos (by omega) (Ev.bnd hc (Ev.pos rfl (Ev.ret _)))))), by rw [h]; simp⟩
theorem wayIndex_loop (l : List IW) (hm : l.length ≤ 1099511627776) (hs : ∀ s ∈ l, s.f0.size ≤ 4294967280 ∧ s.f1.size ≤ 4294967280) : ∀ d i : Nat, i + d = l.length →
    ∃ r, Ev (fun k => slices_IndexFunc_impl_Way_impl_Way_at84.l0 k l (l.length : Int) (i : Int)) r ∧ (decide (r ≥ 0) = !(l.drop i).all wayL) := by
  intro d
  induction d with
  | zero =>
    intro i hi
    refine ⟨-1, Ev.step (fun k => by rw [slices_IndexFunc_impl_Way_impl_Way_at84.l0]) (Ev.neg (by omega) (Ev.ret _)), ?_⟩
    rw [List.drop_of_length_le (by omega)]
    rfl
  | succ d ih =>
    intro i hi
    have hil : i < l.length := by omega
    obtain ⟨z0, z1⟩ := hs l[i] (List.getElem_mem hil)
    have hc : Ev (fun k => impl_ConfOk_2.f k l[i].f0 l[i].f1) (!wayL l[i]) := by
      unfold impl_ConfOk_2.f wayL
      refine Ev.bnd (implDomainOk_ev _ z0) ?_
      by_cases h : domL (LL l[i].f0) = true
      · refine Ev.pos h (Ev.bnd (implDomainOk_ev _ z1) (Ev.eq (Ev.ret _) ?_))
        rw [h, Bool.true_and]
      · refine Ev.neg h (Ev.eq (Ev.ret _) ?_)
        rw [Bool.not_eq_true] at h
        rw [h]
        rfl
    rw [List.drop_eq_getElem_cons hil, List.all_cons]
    by_cases h : wayL l[i] = true
    · obtain ⟨r, hr, hd⟩ := ih (i + 1) (by omega)
      rw [h] at hc
      refine ⟨r, Ev.step (fun k => by rw [slices_IndexFunc_impl_Way_impl_Way_at84.l0]) (Ev.pos (by omega) (Ev.pos (by omega) (Ev.pos (by omega) ?_))), by rw [h, Bool.true_and]; exact hd⟩
      rw [rdIW l i hil]
      refine Ev.bnd hc (Ev.neg (by simp) ?_)
      rw [wsucc (by omega)]
      exact hr
    · rw [Bool.not_eq_true] at h
      rw [h] at hc
      refine ⟨(i : Int), Ev.step (fun k => by rw [slices_IndexFunc_impl_Way_impl_Way_at84.l0]) (Ev.pos (by omega) (Ev.pos (by omega) (Ev.pos (by omega) ?_))), by rw [h, Bool.false_and]; exact decide_eq_true (by omega)⟩
      rw [rdIW l i hil]
      exact Ev.bnd hc (Ev.pos rfl (Ev.ret _))
theorem implConfOk_ev (n : ByteArray) (own : List ByteArray) (ways : List IW) (hn : n.size ≤ 4294967280) (ho : own.length ≤ 1099511627776) (hos : ∀ s ∈ own, s.size ≤ 4294967280) (hm : ways.length ≤ 1099511627776) (hs : ∀ s ∈ ways, s.f0.size ≤ 4294967280 ∧ s.f1.size ≤ 4294967280) :
    Ev (fun k => impl_ConfOk.f k n own ways) (confL n own ways) := by
  unfold impl_ConfOk.f confL
  refine Ev.bnd (implDomainOk_ev n hn) ?_
  by_cases h1 : domL (LL n) = true
  · refine Ev.pos h1 ?_
    have e1 : ownL n = true := h1
    by_cases h2 : (own.length : Int) ≤ 3
    · refine Ev.pos h2 ?_
      have e2 : decide (own.length ≤ 3) = true := by rw [decide_eq_true_eq]; omega
      by_cases h3 : (ways.length : Int) ≤ 4
      · refine Ev.pos h3 ?_
        have e3 : decide (ways.length ≤ 4) = true := by rw [decide_eq_true_eq]; omega
        obtain ⟨r, hr, hd⟩ := ownIndex_loop own ho hos own.length 0 (by omega)
        obtain ⟨q, hq, hd2⟩ := wayIndex_loop ways hm hs ways.length 0 (by omega)
        rw [List.drop_zero] at hd hd2
        have hc : Ev (fun k => slices_ContainsFunc_string_string_at83.f k own) (decide (r ≥ 0)) := by
          have hr' : Ev (fun k => slices_IndexFunc_string_string_at83.f k own) r := hr
          exact Ev.bnd hr' (Ev.ret _)
        have hc2 : Ev (fun k => slices_ContainsFunc_impl_Way_impl_Way_at84.f k ways) (decide (q ≥ 0)) := by
          have hr' : Ev (fun k => slices_IndexFunc_impl_Way_impl_Way_at84.f k ways) q := hq
          exact Ev.bnd hr' (Ev.ret _)
        rw [hd] at hc
        rw [hd2] at hc2
        rw [e1, e2, e3]
        refine Ev.bnd hc ?_
        by_cases h4 : own.all ownL = true
        · refine Ev.neg (by rw [h4]; simp) (Ev.bnd hc2 (Ev.eq (Ev.ret _) ?_))
          rw [h4]
          simp
        · rw [Bool.not_eq_true] at h4
          refine Ev.pos (by rw [h4]; rfl) (Ev.eq (Ev.ret _) ?_)
          rw [h4]
          simp
      · refine Ev.neg h3 (Ev.eq (Ev.ret _) ?_)
        rw [show decide (ways.length ≤ 4) = false by rw [decide_eq_false_iff_not]; omega, Bool.and_false]
    · refine Ev.neg h2 (Ev.eq (Ev.ret _) ?_)
      rw [show decide (own.length ≤ 3) = false by rw [decide_eq_false_iff_not]; omega, Bool.and_false, Bool.false_and]
  · refine Ev.neg h1 (Ev.eq (Ev.ret _) ?_)
    rw [Bool.not_eq_true] at h1
    have e1 : ownL n = false := h1
    rw [e1, Bool.and_false, Bool.false_and, Bool.false_and]
end Go.Proofs.YtpeefjfklklhdaaDoor.Q
namespace Go.Proofs.YtpeefjfklklhdaaDoor.Q
open Go.RowKit Go.Proofs.YtpeefjfklklhdaaDoorW.PrintWords Go.Proofs.YtpeefjfklklhdaaDoorW.PrintLast Go.Proofs.YtpeefjfklklhdaaDoorW.PrintMore
set_option linter.unusedVariables false
def domIn (a b : ByteArray) : Bool := domL (LL a) && domL (LL b) && endsL (LL a) (LL b)
theorem implDomainIn_ev (a b : ByteArray) (ha : a.size ≤ 4294967280) (hb : b.size ≤ 4294967280) : Ev (fun k => impl_DomainIn.f k a b) (domIn a b) := by
  unfold impl_DomainIn.f domIn
  refine Ev.bnd (implDomainOk_ev a ha) ?_
  by_cases h : domL (LL a) = true
  · refine Ev.pos h (Ev.bnd (implDomainOk_ev b hb) ?_)
    by_cases h' : domL (LL b) = true
    · refine Ev.pos h' ?_
      rw [h, h', Bool.true_and, Bool.true_and, endsL_suffix]
      by_cases e : a = b
      · refine Ev.pos (toList_eq.2 e) (Ev.eq (Ev.ret _) ?_)
        simp [e]
      · have hz : ((⟨#[46]⟩ : ByteArray) ++ b).size = 1 + b.size := by rw [size_append]; rfl
        have hl : LL ((⟨#[46]⟩ : ByteArray) ++ b) = 46 :: LL b := by rw [LL_append]; rfl
        have hz3 : ((⟨#[46]⟩ : ByteArray) ++ b).size ≤ 9223372036854775807 := by omega
        refine Ev.neg (fun q => e (toList_eq.1 q)) (Ev.pos (by omega) (Ev.bnd (Ev.k (hasSuffix_f a _ (by omega) hz3)) (Ev.eq (Ev.ret _) ?_)))
        rw [hz, hl, show decide (a = b) = false by rw [decide_eq_false_iff_not]; exact e, Bool.false_or]
    · refine Ev.neg h' (Ev.eq (Ev.ret _) ?_)
      rw [Bool.not_eq_true] at h'
      rw [h', Bool.and_false, Bool.false_and]
  · refine Ev.neg h (Ev.eq (Ev.ret _) ?_)
    rw [Bool.not_eq_true] at h
    rw [h, Bool.false_and, Bool.false_and]
end Go.Proofs.YtpeefjfklklhdaaDoor.Q
namespace Go.Proofs.YtpeefjfklklhdaaDoor.Q
open Go.RowKit Go.Proofs.YtpeefjfklklhdaaDoorW.PrintWords Go.Proofs.YtpeefjfklklhdaaDoorW.PrintLast Go.Proofs.YtpeefjfklklhdaaDoorW.PrintMore
set_option linter.unusedVariables false
set_option linter.unusedSimpArgs false
def ownHas (own : List ByteArray) (d : ByteArray) : Bool := own.any (fun s => decide (s = d))
theorem l3Own_loop (n : ByteArray) (own : List ByteArray) (ways : List IW) (u d : ByteArray) (ho : own.length ≤ 1099511627776) : ∀ m i : Nat, i + m = own.length → Ev (fun k => spec_l3Own.l0 k (i : Int) n own ways u d) ((own.drop i).any (fun s => decide (s = d))) := by
  intro m
  induction m with
  | zero =>
    intro i hi
    rw [List.drop_of_length_le (by omega)]
    refine Ev.step (fun k => by rw [spec_l3Own.l0]) ?_
    exact Ev.neg (by omega) (Ev.ret _)
  | succ m ih =>
    intro i hi
    rw [drop_rd own i (by omega), List.any_cons]
    refine Ev.step (fun k => by rw [spec_l3Own.l0]) ?_
    refine (Ev.pos (by omega) (Ev.pos (by omega) ?_))
    rw [wsucc (by omega)]
    by_cases h : rdOf ByteArray.empty own (i : Int) = d
    · exact Ev.pos (toList_eq.2 h) (Ev.eq (Ev.ret _) (by rw [decide_eq_true h, Bool.true_or]))
    · exact Ev.neg (fun e => h (toList_eq.1 e)) (Ev.eq (ih (i + 1) (by omega)) (by rw [decide_eq_false h, Bool.false_or]))
theorem l3Own_ev (n : ByteArray) (own : List ByteArray) (ways : List IW) (u d : ByteArray) (ho : own.length ≤ 1099511627776) : Ev (fun k => spec_l3Own.f k n own ways u d) (ownHas own d) := by
  have := l3Own_loop n own ways u d ho own.length 0 (by omega)
  rw [List.drop_zero] at this
  exact this
theorem index_loop (own : List ByteArray) (d : ByteArray) (ho : own.length ≤ 1099511627776) : ∀ m i : Nat, i + m = own.length → ∃ r, Ev (fun k => slices_Index_string_string.l0 k own d (own.length : Int) (i : Int)) r ∧ decide (r ≥ 0) = (own.drop i).any (fun s => decide (s = d)) := by
  intro m
  induction m with
  | zero =>
    intro i hi
    refine ⟨-1, Ev.step (fun k => by rw [slices_Index_string_string.l0]) (Ev.neg (by omega) (Ev.ret _)), ?_⟩
    rw [List.drop_of_length_le (by omega)]
    rfl
  | succ m ih =>
    intro i hi
    rw [drop_rd own i (by omega), List.any_cons]
    by_cases h : rdOf ByteArray.empty own (i : Int) = d
    · refine ⟨(i : Int), Ev.step (fun k => by rw [slices_Index_string_string.l0]) (Ev.pos (by omega) (Ev.pos (by omega) (Ev.pos (by omega) (Ev.pos (toList_eq.2 h.symm) (Ev.ret _))))), ?_⟩
      rw [decide_eq_true h, Bool.true_or]
      exact decide_eq_true (by omega)
    · obtain ⟨r, hr, hd⟩ := ih (i + 1) (by omega)
      refine ⟨r, Ev.step (fun k => by rw [slices_Index_string_string.l0]) (Ev.pos (by omega) (Ev.pos (by omega) (Ev.pos (by omega) (Ev.neg (fun e => h (toList_eq.1 e).symm) ?_)))), ?_⟩
      · rw [wsucc (by omega)]
        exact hr
      · rw [decide_eq_false h, Bool.false_or]
        exact hd
theorem local_ev (n : ByteArray) (own : List ByteArray) (ways : List IW) (d : ByteArray) (ho : own.length ≤ 1099511627776) : Ev (fun k => impl_Conf_local.f k n own ways d) (ownHas own d) := by
  obtain ⟨r, hr, hd⟩ := index_loop own d ho own.length 0 (by omega)
  rw [List.drop_zero] at hd
  have h1 : Ev (fun k => slices_Index_string_string.f k own d) r := hr
  have h2 : Ev (fun k => slices_Contains_string_string.f k own d) (decide (r ≥ 0)) := Ev.bnd h1 (Ev.ret _)
  unfold impl_Conf_local.f ownHas
  rw [← hd]
  exact Ev.bnd h2 (Ev.ret _)
def wayFold (d : ByteArray) : List IW → ByteArray → ByteArray → ByteArray
  | [], _, t => t
  | w :: ws, e, t => if endsL (LL d) (LL w.f0) = true ∧ w.f0.size > e.size then wayFold d ws w.f0 w.f1 else wayFold d ws e t
theorem l3Way_loop (n : ByteArray) (own : List ByteArray) (ways : List IW) (d : ByteArray) (hd : d.size ≤ 1099511627776) (hw : ways.length ≤ 1099511627776) (hs : ∀ s ∈ ways, s.f0.size ≤ 1099511627776) : ∀ m i : Nat, i + m = ways.length → ∀ e t : ByteArray,
    Ev (fun k => spec_l3Way.l0 k d e t (i : Int) n own ways) (wayFold d (ways.drop i) e t) := by
  intro m
  induction m with
  | zero =>
    intro i hi e t
    rw [List.drop_of_length_le (by omega)]
    refine Ev.step (fun k => by rw [spec_l3Way.l0]) ?_
    exact Ev.neg (by omega) (Ev.ret _)
  | succ m ih =>
    intro i hi e t
    have hil : i < ways.length := by omega
    have hz := hs ways[i] (List.getElem_mem hil)
    rw [List.drop_eq_getElem_cons hil, wayFold]
    refine Ev.step (fun k => by rw [spec_l3Way.l0]) ?_
    refine (Ev.pos (by omega) (Ev.pos (by omega) ?_))
    rw [rdIW ways i hil, wsucc (by omega)]
    refine Ev.bnd (Ev.k (l1Ends_f d _ hd hz)) ?_
    by_cases h1 : endsL (LL d) (LL ways[i].f0) = true
    · by_cases h2 : (ways[i].f0.size : Int) > (e.size : Int)
      · exact Ev.eq (Ev.pos h1 (Ev.pos h2 (ih (i + 1) (by omega) _ _))) (if_pos ⟨h1, by omega⟩).symm
      · exact Ev.eq (Ev.pos h1 (Ev.neg h2 (ih (i + 1) (by omega) _ _))) (if_neg (fun q => h2 (by omega))).symm
    · exact Ev.eq (Ev.neg h1 (ih (i + 1) (by omega) _ _)) (if_neg (fun q => h1 q.1)).symm
theorem way_loop (ways : List IW) (d : ByteArray) (hd : d.size ≤ 4294967280) (hw : ways.length ≤ 1099511627776) (hs : ∀ s ∈ ways, s.f0.size ≤ 4294967280) (hok : ways.all wayL = true) (hdo : domL (LL d) = true) : ∀ m i : Nat, i + m = ways.length → ∀ e t : ByteArray,
    Ev (fun k => impl_Conf_way.l0 k d ways (ways.length : Int) (i : Int) e t) (wayFold d (ways.drop i) e t) := by
  intro m
  induction m with
  | zero =>
    intro i hi e t
    rw [List.drop_of_length_le (by omega)]
    refine Ev.step (fun k => by rw [impl_Conf_way.l0]) ?_
    exact Ev.neg (by omega) (Ev.ret _)
  | succ m ih =>
    intro i hi e t
    have hil : i < ways.length := by omega
    have hz := hs ways[i] (List.getElem_mem hil)
    have hwl : domL (LL ways[i].f0) = true := by
      have := List.all_eq_true.1 hok ways[i] (List.getElem_mem hil)
      unfold wayL at this
      rw [Bool.and_eq_true] at this
      exact this.1
    have hin : domIn d ways[i].f0 = endsL (LL d) (LL ways[i].f0) := by unfold domIn; rw [hdo, hwl]; rfl
    have he := implDomainIn_ev d ways[i].f0 hd hz
    rw [hin] at he
    rw [List.drop_eq_getElem_cons hil, wayFold]
    refine Ev.step (fun k => by rw [impl_Conf_way.l0]) ?_
    refine (Ev.pos (by omega) (Ev.pos (by omega) (Ev.pos (by omega) ?_)))
    rw [rdIW ways i hil, wsucc (by omega)]
    refine Ev.bnd he ?_
    by_cases h1 : endsL (LL d) (LL ways[i].f0) = true
    · by_cases h2 : (ways[i].f0.size : Int) > (e.size : Int)
      · exact Ev.eq (Ev.pos h1 (Ev.pos h2 (ih (i + 1) (by omega) _ _))) (if_pos ⟨h1, by omega⟩).symm
      · exact Ev.eq (Ev.pos h1 (Ev.neg h2 (ih (i + 1) (by omega) _ _))) (if_neg (fun q => h2 (by omega))).symm
    · exact Ev.eq (Ev.neg h1 (ih (i + 1) (by omega) _ _)) (if_neg (fun q => h1 q.1)).symm
def wayL2 (own : List ByteArray) (ways : List IW) (d : ByteArray) : ByteArray := if ownHas own d = true then ⟨#[]⟩ else wayFold d ways ⟨#[]⟩ ⟨#[]⟩
theorem way_ev (n : ByteArray) (own : List ByteArray) (ways : List IW) (d : ByteArray) (hd : d.size ≤ 4294967280) (ho : own.length ≤ 1099511627776) (hw : ways.length ≤ 1099511627776) (hs : ∀ s ∈ ways, s.f0.size ≤ 4294967280) (hok : ways.all wayL = true) (hdo : domL (LL d) = true) :
    Ev (fun k => impl_Conf_way.f k n own ways d) (wayL2 own ways d) := by
  unfold impl_Conf_way.f wayL2
  refine Ev.bnd (local_ev n own ways d ho) ?_
  by_cases h : ownHas own d = true
  · exact Ev.eq (Ev.pos h (Ev.ret _)) (if_pos h).symm
  · have := way_loop ways d hd hw hs hok hdo ways.length 0 (by omega) ⟨#[]⟩ ⟨#[]⟩
    rw [List.drop_zero] at this
    exact Ev.eq (Ev.neg h this) (if_neg h).symm
theorem l3Way_ev (n : ByteArray) (own : List ByteArray) (ways : List IW) (d : ByteArray) (hd : d.size ≤ 1099511627776) (hw : ways.length ≤ 1099511627776) (hs : ∀ s ∈ ways, s.f0.size ≤ 1099511627776) : Ev (fun k => spec_l3Way.f k n own ways d) (wayFold d ways ⟨#[]⟩ ⟨#[]⟩) := by
  have := l3Way_loop n own ways d hd hw hs ways.length 0 (by omega) ⟨#[]⟩ ⟨#[]⟩
  rw [List.drop_zero] at this
  exact this
theorem confL_ways {n : ByteArray} {own : List ByteArray} {ways : List IW} (h : confL n own ways = true) : ways.all wayL = true := by
  unfold confL at h
  simp only [Bool.and_eq_true] at h
  exact h.1.1.1.2
end Go.Proofs.YtpeefjfklklhdaaDoor.Q
namespace Go.Proofs.YtpeefjfklklhdaaDoor.Q
open Go.RowKit Go.Proofs.YtpeefjfklklhdaaDoorW.PrintWords Go.Proofs.YtpeefjfklklhdaaDoorW.PrintLast Go.Proofs.YtpeefjfklklhdaaDoorW.PrintMore
set_option linter.unusedVariables false
set_option linter.unusedSimpArgs false
def addrL (u d : ByteArray) : Bool := wordL (LL u) && domL (LL d)
theorem implAddrOk_ev (u d : ByteArray) (hu : u.size ≤ 4294967280) (hd : d.size ≤ 4294967280) : Ev (fun k => impl_AddrOk.f k u d) (addrL u d) := by
  unfold impl_AddrOk.f addrL
  refine Ev.bnd (Ev.k (isLabel_f u (by omega))) ?_
  by_cases h : wordL (LL u) = true
  · refine Ev.pos h (Ev.bnd (implDomainOk_ev d hd) (Ev.eq (Ev.ret _) ?_))
    rw [h, Bool.true_and]
  · refine Ev.neg h (Ev.eq (Ev.ret _) ?_)
    rw [Bool.not_eq_true] at h
    rw [h, Bool.false_and]
theorem toList_nil (s : ByteArray) : (s.toList == ([] : List UInt8)) = decide (s = ⟨#[]⟩) := by
  rw [Bool.eq_iff_iff, beq_iff_eq, decide_eq_true_eq, toList_BB]
end Go.Proofs.YtpeefjfklklhdaaDoor.Q
namespace Go.Proofs.YtpeefjfklklhdaaDoor.Q
open Go.RowKit Go.Proofs.YtpeefjfklklhdaaDoorW.PrintWords Go.Proofs.YtpeefjfklklhdaaDoorW.PrintLast Go.Proofs.YtpeefjfklklhdaaDoorW.PrintMore
set_option linter.unusedVariables false
def ConfB (n : ByteArray) (own : List ByteArray) (ways : List IW) : Prop := n.size ≤ 1048576 ∧ own.length ≤ 1048576 ∧ (∀ s ∈ own, s.size ≤ 1048576) ∧ ways.length ≤ 1048576 ∧ ∀ w ∈ ways, w.f0.size ≤ 1048576 ∧ w.f1.size ≤ 1048576
theorem ConfB.spec {n : ByteArray} {own : List ByteArray} {ways : List IW} (h : ConfB n own ways) : Ev (fun k => spec_l3ConfOk.f k n own ways) (confL n own ways) := by
  obtain ⟨h0, h1, h2, h3, h4⟩ := h
  exact l3ConfOk_ev _ _ _ (by omega) (by omega) (fun s hs => by have := h2 s hs; omega) (by omega) (fun s hs => by have := h4 s hs; omega)
theorem ConfB.impl {n : ByteArray} {own : List ByteArray} {ways : List IW} (h : ConfB n own ways) : Ev (fun k => impl_ConfOk.f k n own ways) (confL n own ways) := by
  obtain ⟨h0, h1, h2, h3, h4⟩ := h
  exact implConfOk_ev _ _ _ (by omega) (by omega) (fun s hs => by have := h2 s hs; omega) (by omega) (fun s hs => by have := h4 s hs; omega)
def wayOf (n : ByteArray) (own : List ByteArray) (ways : List IW) (d : ByteArray) : ByteArray := if confL n own ways = true then (if domL (LL d) = true then wayL2 own ways d else ⟨#[]⟩) else ⟨#[]⟩
theorem specWayOf_ev {n : ByteArray} {own : List ByteArray} {iw : List IW} (h : ConfB n own iw) (d : ByteArray) (hd : d.size ≤ 1048576) : Ev (fun k => spec_WayOf.f k n own iw d) (wayOf n own iw d) := by
  have hs := h.spec
  obtain ⟨h0, h1, h2, h3, h4⟩ := h
  unfold spec_WayOf.f wayOf
  refine Ev.bnd hs ?_
  by_cases hc : confL n own iw = true
  · refine Ev.eq (Ev.pos hc (Ev.bnd (l1Domain_ev d (by omega)) ?_)) (if_pos hc).symm
    by_cases hdo : domL (LL d) = true
    · refine Ev.eq (Ev.pos hdo (Ev.bnd (l3Own_ev n own iw ⟨#[]⟩ d (by omega)) ?_)) (if_pos hdo).symm
      unfold wayL2
      by_cases ho : ownHas own d = true
      · exact Ev.eq (Ev.pos ho (Ev.ret _)) (if_pos ho).symm
      · exact Ev.eq (Ev.neg ho (Ev.bnd (l3Way_ev n own iw d (by omega) (by omega) (fun s hs => by have := h4 s hs; omega)) (Ev.ret _))) (if_neg ho).symm
    · exact Ev.eq (Ev.neg hdo (Ev.ret _)) (if_neg hdo).symm
  · exact Ev.eq (Ev.neg hc (Ev.ret _)) (if_neg hc).symm
theorem implWayOf_ev {n : ByteArray} {own : List ByteArray} {iw : List IW} (h : ConfB n own iw) (d : ByteArray) (hd : d.size ≤ 1048576) : Ev (fun k => impl_WayOf.f k n own iw d) (wayOf n own iw d) := by
  have hi := h.impl
  obtain ⟨h0, h1, h2, h3, h4⟩ := h
  unfold impl_WayOf.f wayOf
  refine Ev.bnd hi ?_
  by_cases hc : confL n own iw = true
  · refine Ev.eq (Ev.pos hc (Ev.bnd (implDomainOk_ev d (by omega)) ?_)) (if_pos hc).symm
    by_cases hdo : domL (LL d) = true
    · exact Ev.eq (Ev.pos hdo (Ev.bnd (way_ev n own iw d (by omega) (by omega) (by omega) (fun s hs => by have := h4 s hs; omega) (confL_ways hc) hdo) (Ev.ret _))) (if_pos hdo).symm
    · exact Ev.eq (Ev.neg hdo (Ev.ret _)) (if_neg hdo).symm
  · exact Ev.eq (Ev.neg hc (Ev.ret _)) (if_neg hc).symm
def takesL (own : List ByteArray) (ways : List IW) (d : ByteArray) : Bool := ownHas own d || !decide (wayFold d ways ⟨#[]⟩ ⟨#[]⟩ = ⟨#[]⟩)
def confTakes (n : ByteArray) (own : List ByteArray) (ways : List IW) (u d : ByteArray) : Bool := confL n own ways && addrL u d && takesL own ways d
theorem addrL_dom {u d : ByteArray} (h : addrL u d = true) : domL (LL d) = true := by
  unfold addrL at h
  rw [Bool.and_eq_true] at h
  exact h.2
theorem ne_nilT (t : ByteArray) : (t.toList != ([] : List UInt8)) = !decide (t = ⟨#[]⟩) := by rw [bne, toList_nil]
theorem implConfTakes_ev {n : ByteArray} {own : List ByteArray} {iw : List IW} (h : ConfB n own iw) (u d : ByteArray) (hu : u.size ≤ 1048576) (hd : d.size ≤ 1048576) : Ev (fun k => impl_ConfTakes.f k n own iw u d) (confTakes n own iw u d) := by
  have hi := h.impl
  obtain ⟨h0, h1, h2, h3, h4⟩ := h
  unfold impl_ConfTakes.f confTakes
  refine Ev.bnd hi ?_
  by_cases hc : confL n own iw = true
  · refine Ev.pos hc (Ev.bnd (implAddrOk_ev u d (by omega) (by omega)) ?_)
    rw [hc, Bool.true_and]
    by_cases ha : addrL u d = true
    · refine Ev.pos ha ?_
      rw [ha, Bool.true_and]
      refine Ev.bnd ?_ (Ev.ret _)
      unfold impl_Conf_takes.f takesL
      refine Ev.bnd (local_ev n own iw d (by omega)) ?_
      by_cases ho : ownHas own d = true
      · exact Ev.eq (Ev.pos ho (Ev.ret _)) (by rw [ho, Bool.true_or])
      · have hway := way_ev n own iw d (by omega) (by omega) (by omega) (fun s hs => by have := h4 s hs; omega) (confL_ways hc) (addrL_dom ha)
        unfold wayL2 at hway
        rw [if_neg ho] at hway
        refine Ev.eq (Ev.neg ho (Ev.bnd hway (Ev.ret _))) ?_
        rw [Bool.not_eq_true] at ho
        rw [ho, Bool.false_or, ne_nilT]
    · refine Ev.eq (Ev.neg ha (Ev.ret _)) ?_
      rw [Bool.not_eq_true] at ha
      rw [ha, Bool.false_and]
  · refine Ev.eq (Ev.neg hc (Ev.ret _)) ?_
    rw [Bool.not_eq_true] at hc
    rw [hc, Bool.false_and, Bool.false_and]
end Go.Proofs.YtpeefjfklklhdaaDoor.Q
namespace Go.Proofs.YtpeefjfklklhdaaDoor.Q
open Go.RowKit Go.Proofs.YtpeefjfklklhdaaDoorW.PrintWords Go.Proofs.YtpeefjfklklhdaaDoorW.PrintLast Go.Proofs.YtpeefjfklklhdaaDoorW.PrintMore
set_option linter.unusedVariables false
set_option linter.unusedSimpArgs false
theorem xor_nonneg (x y : Int) (hx : 0 ≤ x) (hx1 : x < 1125899906842624) (hy : 0 ≤ y) (hy1 : y < 1125899906842624) :
    0 ≤ Go.bits .xor .i64 x y ∧ Go.bits .xor .i64 x y < 1125899906842624 := by
  obtain ⟨a, rfl⟩ := Int.eq_ofNat_of_zero_le hx
  obtain ⟨b, rfl⟩ := Int.eq_ofNat_of_zero_le hy
  have ha : a < 2 ^ 50 := by omega
  have hb : b < 2 ^ 50 := by omega
  have hp : 2 ^ 50 ≤ 2 ^ IntKind.i64.bits := Nat.pow_le_pow_right (by decide) (by decide)
  have ha' : a % 2 ^ IntKind.i64.bits = a := Nat.mod_eq_of_lt (Nat.lt_of_lt_of_le ha hp)
  have hb' : b % 2 ^ IntKind.i64.bits = b := Nat.mod_eq_of_lt (Nat.lt_of_lt_of_le hb hp)
  have hx := Nat.xor_lt_two_pow ha hb
  have e : Go.bits .xor .i64 (a : Int) (b : Int) = ((a ^^^ b : Nat) : Int) := by
    simp only [bits, BitVec.ofInt_natCast, BitVec.toNat_xor, BitVec.toNat_ofNat, ha', hb']
    rw [IntKind.wrap_i64]
    omega
  rw [e]
  omega
theorem rd_byte {b : List Int} (hb : ∀ x ∈ b, 0 ≤ x ∧ x ≤ 255) (i : Int) : 0 ≤ rd b i ∧ rd b i ≤ 255 := by
  unfold rd
  by_cases h : i.toNat < b.length
  · have := hb _ (List.getElem_mem h)
    simpa [List.getD_eq_getElem?_getD, h] using this
  · simp [List.getD_eq_getElem?_getD, h]
theorem tm {x n : Int} (hx : 0 ≤ x) (hn : 1 ≤ n) : 0 ≤ Int.tmod x n ∧ Int.tmod x n < n :=
  ⟨Int.tmod_nonneg _ hx, Int.tmod_lt_of_pos _ (by omega)⟩
theorem pick_ok (b : List Int) (hb : ∀ x ∈ b, 0 ≤ x ∧ x ≤ 255) (p n : Int) (k : Nat) (h0 : 0 ≤ p) (h1 : p ≤ 1099511627776) (hn : n ≤ 4294967296) (hl : b.length ≤ 4294967296) :
    ∃ r, spec_l20Rd_pick.f (k + 1) b p n = some (r, p + 1) ∧ 0 ≤ r ∧ (1 ≤ n → r < n) ∧ (n < 1 → r = 0) := by
  unfold spec_l20Rd_pick.f
  have e1 : wrap64 (p + 1) = p + 1 := w64 (by omega) (by omega)
  rw [e1]
  by_cases hn1 : n < 1
  · rw [if_pos hn1]
    simp only [spec_l20Rd_pick.j0]
    exact ⟨0, by simp, by omega, by omega, fun _ => rfl⟩
  · rw [if_neg hn1]
    by_cases hb0 : b.length = 0
    · have : ((b.length : Int) == 0) = true := by simp [hb0]
      rw [this]
      simp only [spec_l20Rd_pick.j0]
      exact ⟨0, by simp, by omega, by omega, fun _ => rfl⟩
    · have hf : ((b.length : Int) == 0) = false := by simpa using hb0
      rw [hf]
      simp only [spec_l20Rd_pick.j0]
      have e2 : wrap64 (p + 1 - 1) = p := by rw [w64 (by omega) (by omega)]; omega
      simp only [e2]
      rw [if_neg (by simp)]
      by_cases hp : p < (b.length : Int)
      · rw [if_pos hp, if_pos h0, if_neg (by omega)]
        have hr := rd_byte hb p
        rw [w64 (by omega) (by omega)]
        have ht := tm hr.1 (show 1 ≤ n by omega)
        exact ⟨_, rfl, ht.1, fun _ => ht.2, fun h => absurd h hn1⟩
      · rw [if_neg hp, if_neg (by omega)]
        have t1 := tm h0 (show (1 : Int) ≤ (b.length : Int) by omega)
        rw [if_pos t1.1, if_pos t1.2]
        have e3 : wrap64 (wrap64 (p * 7) + 3) = p * 7 + 3 := by rw [w64 (x := p * 7) (by omega) (by omega), w64 (by omega) (by omega)]
        rw [e3]
        have t2 := tm (show 0 ≤ p * 7 + 3 by omega) (show (1 : Int) ≤ (b.length : Int) by omega)
        rw [if_pos t2.1, if_pos t2.2, if_neg (by omega)]
        have ra := rd_byte hb (Int.tmod p (b.length : Int))
        have rb := rd_byte hb (Int.tmod (p * 7 + 3) (b.length : Int))
        generalize rd b (Int.tmod p (b.length : Int)) = a at *
        generalize rd b (Int.tmod (p * 7 + 3) (b.length : Int)) = c at *
        have hq0 : 0 ≤ Int.tdiv p (b.length : Int) := Int.tdiv_nonneg h0 (by omega)
        have hq1 : Int.tdiv p (b.length : Int) ≤ p := Int.tdiv_le_self _ h0
        generalize Int.tdiv p (b.length : Int) = q at *
        have e4 : wrap64 (wrap64 (wrap64 (wrap64 (wrap64 a * 131) + wrap64 (wrap64 c * 1117)) + wrap64 (p * 29)) + wrap64 (wrap64 q * 53)) = a * 131 + c * 1117 + p * 29 + q * 53 := by
          rw [w64 (x := a) (by omega) (by omega), w64 (x := c) (by omega) (by omega), w64 (x := q) (by omega) (by omega), w64 (x := a * 131) (by omega) (by omega), w64 (x := c * 1117) (by omega) (by omega), w64 (x := p * 29) (by omega) (by omega), w64 (x := q * 53) (by omega) (by omega), w64 (x := a * 131 + c * 1117) (by omega) (by omega), w64 (x := a * 131 + c * 1117 + p * 29) (by omega) (by omega), w64 (by omega) (by omega)]
        rw [e4]
        have hx0 : 0 ≤ a * 131 + c * 1117 + p * 29 + q * 53 := by omega
        have hx1 : a * 131 + c * 1117 + p * 29 + q * 53 < 1125899906842624 := by omega
        generalize a * 131 + c * 1117 + p * 29 + q * 53 = x at *
        have hd0 : 0 ≤ Int.tdiv x 64 := Int.tdiv_nonneg hx0 (by omega)
        have hd1 : Int.tdiv x 64 ≤ x := Int.tdiv_le_self _ hx0
        rw [w64 (x := Int.tdiv x 64) (by omega) (by omega)]
        have hz := xor_nonneg x (Int.tdiv x 64) hx0 hx1 hd0 (by omega)
        have ht := tm hz.1 (show 1 ≤ n by omega)
        exact ⟨_, rfl, ht.1, fun _ => ht.2, fun h => absurd h hn1⟩
theorem open_ok (l : List Int) (hb : ∀ x ∈ l, (Lit.int .u8 x).wf = true) : ∃ b, spec_l20Open.f l = some (b, 0) ∧ (∀ x ∈ b, 0 ≤ x ∧ x ≤ 255) ∧ b.length ≤ 2000 := by
  have hb' : ∀ x ∈ l, 0 ≤ x ∧ x ≤ 255 := by
    intro x hx
    have := hb x hx
    exact wf_u8 this
  unfold spec_l20Open.f
  by_cases h : (l.length : Int) > 2000
  · rw [if_pos h, if_pos (by omega)]
    exact ⟨_, rfl, fun x hx => hb' x (List.mem_of_mem_take hx), by rw [List.length_take]; omega⟩
  · rw [if_neg h]
    exact ⟨_, rfl, hb', by omega⟩
def Buf (b : List Int) : Prop := (∀ x ∈ b, 0 ≤ x ∧ x ≤ 255) ∧ b.length ≤ 2000
theorem pick_same (b : List Int) (p n : Int) (k : Nat) : spec_l20Rd_pick.f (k + 1) b p n = spec_l20Rd_pick.f 1 b p n := rfl
def Dr {α : Type} (n : Int) (p : Int) (f : Nat → Option (α × Int)) (P : α → Prop) : Prop := ∃ v p', Ev f (v, p') ∧ p ≤ p' ∧ p' ≤ p + n ∧ P v
theorem pick_dr {b : List Int} (hb : Buf b) {p : Int} (n : Int) (h0 : 0 ≤ p) (h1 : p ≤ 1000000000) (hn : n ≤ 4294967296) : Dr 1 p (fun k => spec_l20Rd_pick.f k b p n) (fun r => 0 ≤ r ∧ (1 ≤ n → r < n)) := by
  obtain ⟨r, hr, hr0, hr1, _⟩ := pick_ok b hb.1 p n 0 h0 (by omega) hn (by have := hb.2; omega)
  refine ⟨r, p + 1, ⟨1, fun k hk => ?_⟩, by omega, by omega, hr0, hr1⟩
  obtain ⟨m, rfl⟩ : ∃ m, k = m + 1 := ⟨k - 1, by omega⟩
  show spec_l20Rd_pick.f (m + 1) b p n = _
  rw [pick_same]
  exact hr
theorem of_dr {b : List Int} (hb : Buf b) {p : Int} (l : List ByteArray) (hl : l ≠ []) (hm : l.length ≤ 4294967296) (h0 : 0 ≤ p) (h1 : p ≤ 1000000000) : Dr 1 p (fun k => spec_l20Rd_of.f k b p l) (fun r => r ∈ l) := by
  obtain ⟨r, p', hr, hp, hp', hr0, hr1⟩ := pick_dr hb (l.length : Int) h0 h1 (by omega)
  have hpos := List.length_pos_iff.2 hl
  have hr1 := hr1 (by omega)
  refine ⟨rdOf ByteArray.empty l r, p', ?_, hp, hp', ?_⟩
  · unfold spec_l20Rd_of.f
    exact Ev.bnd hr (Ev.pos hr0 (Ev.pos hr1 (Ev.ret _)))
  · unfold rdOf
    rw [List.getD_eq_getElem?_getD, List.getElem?_eq_getElem (by omega)]
    exact List.getElem_mem _
theorem of_all {l : List ByteArray} {P : ByteArray → Prop} (h : ∀ s ∈ l, P s) {n p : Int} {f : Nat → Option (ByteArray × Int)} (d : Dr n p f (fun r => r ∈ l)) : Dr n p f P := by
  obtain ⟨v, p', e, a, c, m⟩ := d
  exact ⟨v, p', e, a, c, h v m⟩
end Go.Proofs.YtpeefjfklklhdaaDoor.Q
namespace Go.Proofs.YtpeefjfklklhdaaDoor.Q
open Go.RowKit Go.Proofs.YtpeefjfklklhdaaDoorW.PrintWords Go.Proofs.YtpeefjfklklhdaaDoorW.PrintLast Go.Proofs.YtpeefjfklklhdaaDoorW.PrintMore
set_option linter.unusedVariables false
theorem sizes_of {l : List ByteArray} {n : Nat} (h : l.all (fun s => decide (s.size ≤ n)) = true) : ∀ s ∈ l, s.size ≤ n := fun s hs => by
  rw [List.all_eq_true] at h
  exact of_decide_eq_true (h s hs)
theorem domain_dr {b : List Int} (hb : Buf b) {p : Int} (h0 : 0 ≤ p) (h1 : p ≤ 1000000) : Dr 1 p (fun k => spec_l20Domain.f k b p) (fun r => r.size ≤ 9) := by
  unfold spec_l20Domain.f
  obtain ⟨v, p', e, a, c, m⟩ := of_all (P := fun s => s.size ≤ 9) (sizes_of (by decide)) (of_dr hb [(⟨#[111, 110, 101, 46, 111, 114, 103]⟩ : ByteArray), (⟨#[116, 119, 111, 46, 111, 114, 103]⟩ : ByteArray), (⟨#[104, 117, 98, 46, 110, 101, 116]⟩ : ByteArray), (⟨#[120, 46, 99, 111, 109]⟩ : ByteArray), (⟨#[102, 97, 114, 46, 99, 111, 109]⟩ : ByteArray), (⟨#[111, 116, 104, 101, 114, 46, 99, 111, 109]⟩ : ByteArray), (⟨#[97, 46, 111, 110, 101, 46, 111, 114, 103]⟩ : ByteArray)] (by simp) (by simp) h0 (by omega))
  exact ⟨v, p', Ev.bnd e (Ev.ret _), a, c, m⟩
theorem addr_dr {b : List Int} (hb : Buf b) {p : Int} (h0 : 0 ≤ p) (h1 : p ≤ 100000) : ∃ u d p', Ev (fun k => spec_l20Addr.f k b p) (u, d, p') ∧ p ≤ p' ∧ p' ≤ p + 2 ∧ u.size ≤ 11 ∧ d.size ≤ 9 := by
  unfold spec_l20Addr.f
  obtain ⟨v, p1, e, a, c, m⟩ := of_all (P := fun s => s.size ≤ 11) (sizes_of (by decide)) (of_dr hb (p := p) [(⟨#[97]⟩ : ByteArray), (⟨#[98]⟩ : ByteArray), (⟨#[97, 110, 110]⟩ : ByteArray), (⟨#[98, 111, 98, 55]⟩ : ByteArray)] (by simp) (by simp) h0 (by omega))
  obtain ⟨w, p2, e2, a2, c2, m2⟩ := domain_dr hb (p := p1) (by omega) (by omega)
  exact ⟨v, w, p2, Ev.bnd e (Ev.bnd e2 (Ev.ret _)), by omega, by omega, m, m2⟩
theorem anyAddr_dr {b : List Int} (hb : Buf b) {p : Int} (h0 : 0 ≤ p) (h1 : p ≤ 100000) : ∃ u d p', Ev (fun k => spec_l20AnyAddr.f k b p) (u, d, p') ∧ p ≤ p' ∧ p' ≤ p + 4 ∧ u.size ≤ 11 ∧ d.size ≤ 9 := by
  unfold spec_l20AnyAddr.f
  obtain ⟨u, d, p1, e1, a1, c1, m1, n1⟩ := addr_dr hb h0 h1
  obtain ⟨t, p2, e2, a2, c2, _, _⟩ := pick_dr hb (p := p1) 10 (by omega) (by omega) (by omega)
  by_cases h : t = 0
  · obtain ⟨v, p3, e3, a3, c3, m3⟩ := of_all (P := fun s => s.size ≤ 11) (sizes_of (by decide)) (of_dr hb (p := p2) [(⟨#[]⟩ : ByteArray), (⟨#[65]⟩ : ByteArray), (⟨#[116, 111, 111, 108, 111, 110, 103, 110, 97, 109, 101]⟩ : ByteArray), (⟨#[97, 64, 98]⟩ : ByteArray)] (by simp) (by simp) (by omega) (by omega))
    exact ⟨v, d, p3, Ev.bnd e1 (Ev.bnd e2 (Ev.pos h (Ev.bnd e3 (Ev.ret _)))), by omega, by omega, m3, n1⟩
  · by_cases h' : t = 1
    · obtain ⟨v, p3, e3, a3, c3, m3⟩ := of_all (P := fun s => s.size ≤ 9) (sizes_of (by decide)) (of_dr hb (p := p2) [(⟨#[]⟩ : ByteArray), (⟨#[97, 46, 46, 98]⟩ : ByteArray), (⟨#[46, 97]⟩ : ByteArray), (⟨#[97, 46, 98, 46, 99, 46, 100]⟩ : ByteArray), (⟨#[85, 112, 46, 111, 114, 103]⟩ : ByteArray)] (by simp) (by simp) (by omega) (by omega))
      exact ⟨u, v, p3, Ev.bnd e1 (Ev.bnd e2 (Ev.neg h (Ev.pos h' (Ev.bnd e3 (Ev.ret _))))), by omega, by omega, m1, m3⟩
    · by_cases h2 : t = 2
      · exact ⟨_, _, p2, Ev.bnd e1 (Ev.bnd e2 (Ev.neg h (Ev.neg h' (Ev.pos h2 (Ev.ret _))))), by omega, by omega, by decide, by decide⟩
      · exact ⟨_, _, p2, Ev.bnd e1 (Ev.bnd e2 (Ev.neg h (Ev.neg h' (Ev.neg h2 (Ev.ret _))))), by omega, by omega, m1, n1⟩
end Go.Proofs.YtpeefjfklklhdaaDoor.Q
namespace Go.Proofs.YtpeefjfklklhdaaDoor.Q
open Go.RowKit Go.Proofs.YtpeefjfklklhdaaDoorW.PrintWords Go.Proofs.YtpeefjfklklhdaaDoorW.PrintLast Go.Proofs.YtpeefjfklklhdaaDoorW.PrintMore
set_option linter.unusedVariables false
abbrev IC := S56
def wayZ (w : IW) : Bool := decide (w.f0.size ≤ 20) && decide (w.f1.size ≤ 20)
def txtZ (s : ByteArray) : Bool := decide (s.size ≤ 20)
def confZ (c : IC) : Bool := txtZ c.f0 && (c.f1.all txtZ && decide (c.f1.length ≤ 4)) && (c.f2.all wayZ && decide (c.f2.length ≤ 5))
theorem confs_dr {b : List Int} (hb : Buf b) {p : Int} (h0 : 0 ≤ p) (h1 : p ≤ 100000) : ∃ cs p', Ev (fun k => spec_l20Confs.f k b p) (cs, p') ∧ p ≤ p' ∧ p' ≤ p + 1 ∧ 1 ≤ cs.length ∧ cs.length ≤ 3 ∧ cs.all confZ = true := by
  obtain ⟨t, p', e, a, c, _, _⟩ := pick_dr hb (p := p) 5 h0 (by omega) (by omega)
  unfold spec_l20Confs.f
  by_cases q0 : t = 0
  · exact ⟨_, p', Ev.bnd (Ev.ret _) (Ev.bnd (Ev.ret _) (Ev.bnd (Ev.ret _) (Ev.bnd (Ev.ret _) (Ev.bnd (Ev.ret _) (Ev.bnd (Ev.ret _) (Ev.bnd e (Ev.pos q0 (Ev.ret _)))))))), a, c, by decide, by decide, by decide⟩
  by_cases q1 : t = 1
  · exact ⟨_, p', Ev.bnd (Ev.ret _) (Ev.bnd (Ev.ret _) (Ev.bnd (Ev.ret _) (Ev.bnd (Ev.ret _) (Ev.bnd (Ev.ret _) (Ev.bnd (Ev.ret _) (Ev.bnd e (Ev.neg q0 (Ev.pos q1 (Ev.ret _))))))))), a, c, by decide, by decide, by decide⟩
  by_cases q2 : t = 2
  · exact ⟨_, p', Ev.bnd (Ev.ret _) (Ev.bnd (Ev.ret _) (Ev.bnd (Ev.ret _) (Ev.bnd (Ev.ret _) (Ev.bnd (Ev.ret _) (Ev.bnd (Ev.ret _) (Ev.bnd e (Ev.neg q0 (Ev.neg q1 (Ev.pos q2 (Ev.pos (by decide) (Ev.pos (by decide) (Ev.ret _)))))))))))), a, c, by decide, by decide, by decide⟩
  · exact ⟨_, p', Ev.bnd (Ev.ret _) (Ev.bnd (Ev.ret _) (Ev.bnd (Ev.ret _) (Ev.bnd (Ev.ret _) (Ev.bnd (Ev.ret _) (Ev.bnd (Ev.ret _) (Ev.bnd e (Ev.neg q0 (Ev.neg q1 (Ev.neg q2 (Ev.ret _)))))))))), a, c, by decide, by decide, by decide⟩
theorem rdIC (l : List IC) (i : Nat) (h : i < l.length) : rd_T56 l (i : Int) = l[i] := by
  unfold rd_T56
  rw [Int.toNat_natCast, List.getD_eq_getElem?_getD, List.getElem?_eq_getElem h]
  rfl
theorem conf_dr {b : List Int} (hb : Buf b) {p : Int} (h0 : 0 ≤ p) (h1 : p ≤ 100000) : ∃ (c : IC) (p' : Int), Ev (fun k => spec_l20Conf.f k b p) (c.f0, c.f1, c.f2, p') ∧ p ≤ p' ∧ p' ≤ p + 2 ∧ confZ c = true := by
  obtain ⟨cs, p1, e1, a1, c1, l1, l2, hz⟩ := confs_dr hb h0 h1
  obtain ⟨t, p2, e2, a2, c2, m0, m1⟩ := pick_dr hb (p := p1) (cs.length : Int) (by omega) (by omega) (by omega)
  have m1 := m1 (by omega)
  obtain ⟨i, rfl⟩ := int_of_nat m0
  have hi : i < cs.length := by omega
  refine ⟨cs[i], p2, ?_, by omega, by omega, List.all_eq_true.1 hz _ (List.getElem_mem hi)⟩
  unfold spec_l20Conf.f
  refine Ev.bnd e1 (Ev.bnd e2 (Ev.pos m0 (Ev.pos m1 ?_)))
  rw [rdIC cs i hi]
  exact Ev.ret _
theorem txt_all {l : List ByteArray} (h : l.all txtZ = true) : ∀ s ∈ l, s.size ≤ 20 := fun s hs => of_decide_eq_true (List.all_eq_true.1 h s hs)
theorem way_all {l : List IW} (h : l.all wayZ = true) : ∀ s ∈ l, s.f0.size ≤ 20 ∧ s.f1.size ≤ 20 := fun s hs => by
  have := List.all_eq_true.1 h s hs
  unfold wayZ at this
  rw [Bool.and_eq_true, decide_eq_true_eq, decide_eq_true_eq] at this
  exact this
def ConfS (n : ByteArray) (own : List ByteArray) (ways : List IW) : Prop := n.size ≤ 20 ∧ own.length ≤ 8 ∧ (∀ s ∈ own, s.size ≤ 20) ∧ ways.length ≤ 8 ∧ ∀ w ∈ ways, w.f0.size ≤ 20 ∧ w.f1.size ≤ 20
theorem ConfS.b {n : ByteArray} {own : List ByteArray} {ways : List IW} (h : ConfS n own ways) : ConfB n own ways := by
  obtain ⟨h0, h1, h2, h3, h4⟩ := h
  exact ⟨by omega, by omega, fun s hs => by have := h2 s hs; omega, by omega, fun s hs => by have := h4 s hs; omega⟩
theorem anyConf_dr {b : List Int} (hb : Buf b) {p : Int} (h0 : 0 ≤ p) (h1 : p ≤ 10000) : ∃ n own ways p', Ev (fun k => spec_l20AnyConf.f k b p) (n, own, ways, p') ∧ p ≤ p' ∧ p' ≤ p + 5 ∧ ConfS n own ways := by
  obtain ⟨c, p1, e1, a1, c1, hz⟩ := conf_dr hb h0 (by omega)
  obtain ⟨t, p2, e2, a2, c2, _, _⟩ := pick_dr hb (p := p1) 10 (by omega) (by omega) (by omega)
  unfold confZ txtZ at hz
  simp only [Bool.and_eq_true, decide_eq_true_eq] at hz
  obtain ⟨⟨z0, z1, z2⟩, z3, z4⟩ := hz
  have z1 := txt_all z1
  have z3 := way_all z3
  unfold spec_l20AnyConf.f
  by_cases q0 : t = 0
  · obtain ⟨v, p3, e3, a3, c3, m3⟩ := of_all (P := fun s => s.size ≤ 20) (sizes_of (by decide)) (of_dr hb (p := p2) [(⟨#[]⟩ : ByteArray), (⟨#[65]⟩ : ByteArray), (⟨#[97, 46, 46, 98]⟩ : ByteArray)] (by simp) (by simp) (by omega) (by omega))
    exact ⟨v, c.f1, c.f2, p3, Ev.bnd e1 (Ev.bnd e2 (Ev.pos q0 (Ev.bnd e3 (Ev.ret _)))), by omega, by omega, m3, by omega, z1, by omega, z3⟩
  by_cases q1 : t = 1
  · refine ⟨c.f0, ([] ++ c.f1) ++ [(⟨#[98, 46, 111, 114, 103]⟩ : ByteArray), (⟨#[99, 46, 111, 114, 103]⟩ : ByteArray)], c.f2, p2, Ev.bnd e1 (Ev.bnd e2 (Ev.neg q0 (Ev.pos q1 (Ev.bnd (Ev.ret _) (Ev.pos (by show 0 + c.f1.length < 8796093022208; omega) (Ev.bnd (Ev.ret _) (Ev.bnd (Ev.ret _) (Ev.pos (by show ([] ++ c.f1).length + 2 < 8796093022208; simp; omega) (Ev.ret _))))))))), by omega, by omega, z0, by simp; omega, fun s hs => ?_, by omega, z3⟩
    rcases List.mem_append.1 hs with h | h
    · exact z1 s (by simpa using h)
    · simp only [List.mem_cons, List.not_mem_nil, or_false] at h
      rcases h with rfl | rfl <;> decide
  by_cases q2 : t = 2
  · obtain ⟨v, p3, e3, a3, c3, m3⟩ := of_all (P := fun s => s.size ≤ 20) (sizes_of (by decide)) (of_dr hb (p := p2) [(⟨#[]⟩ : ByteArray), (⟨#[98, 46, 111, 114, 103]⟩ : ByteArray), (⟨#[111, 110, 101, 46, 111, 114, 103]⟩ : ByteArray)] (by simp) (by simp) (by omega) (by omega))
    refine ⟨c.f0, c.f1, ([] ++ c.f2) ++ [(⟨v, (⟨#[116, 119, 111, 46, 111, 114, 103]⟩ : ByteArray)⟩ : IW)], p3, Ev.bnd e1 (Ev.bnd e2 (Ev.neg q0 (Ev.neg q1 (Ev.pos q2 (Ev.bnd (Ev.ret _) (Ev.pos (by show 0 + c.f2.length < 4398046511104; omega) (Ev.bnd (Ev.ret _) (Ev.bnd e3 (Ev.pos (by show ([] ++ c.f2).length < 4398046511104; simp; omega) (Ev.ret _)))))))))), by omega, by omega, z0, by omega, z1, by simp; omega, fun s hs => ?_⟩
    rcases List.mem_append.1 hs with h | h
    · exact z3 s (by simpa using h)
    · rw [List.mem_singleton.1 h]
      exact ⟨m3, by show (⟨#[116, 119, 111, 46, 111, 114, 103]⟩ : ByteArray).size ≤ 20; decide⟩
  · exact ⟨c.f0, c.f1, c.f2, p2, Ev.bnd e1 (Ev.bnd e2 (Ev.neg q0 (Ev.neg q1 (Ev.neg q2 (Ev.ret _))))), by omega, by omega, z0, by omega, z1, by omega, z3⟩
end Go.Proofs.YtpeefjfklklhdaaDoor.Q
namespace Go.Proofs.YtpeefjfklklhdaaDoor.Q
open Go.RowKit Go.Proofs.YtpeefjfklklhdaaDoorW.PrintWords Go.Proofs.YtpeefjfklklhdaaDoorW.PrintLast Go.Proofs.YtpeefjfklklhdaaDoorW.PrintMore
set_option linter.unusedVariables false
theorem drawWayOf_ev (l : List Int) (hl : ∀ z ∈ l, (Lit.int .u8 z).wf = true) : ∃ n own ways d, Ev (fun k => spec_DrawWayOf.f k l) (n, own, ways, d) ∧ ConfS n own ways ∧ d.size ≤ 9 := by
  obtain ⟨b, hb, hb1, hb2⟩ := open_ok l hl
  have hB : Buf b := ⟨hb1, hb2⟩
  obtain ⟨n, own, ways, p, e, a, c, hz⟩ := anyConf_dr hB (p := 0) (by omega) (by omega)
  obtain ⟨u, d, p2, e2, _, _, h1, h2⟩ := anyAddr_dr hB (p := p) (by omega) (by omega)
  exact ⟨n, own, ways, d, by unfold spec_DrawWayOf.f; exact Ev.bnd (Ev.k hb) (Ev.bnd e (Ev.bnd e2 (Ev.ret _))), hz, h2⟩
def bestN (d : ByteArray) : List IW → Nat → Nat
  | [], n => n
  | w :: ws, n => if endsL (LL d) (LL w.f0) = true ∧ w.f0.size > n then bestN d ws w.f0.size else bestN d ws n
theorem fold_best (d : ByteArray) : ∀ (ws : List IW) (e t : ByteArray), (wayFold d ws e t = t ∧ bestN d ws e.size = e.size) ∨ ∃ w ∈ ws, endsL (LL d) (LL w.f0) = true ∧ w.f0.size = bestN d ws e.size ∧ wayFold d ws e t = w.f1 ∧ bestN d ws e.size > e.size := by
  intro ws
  induction ws with
  | nil => intro e t; exact .inl ⟨rfl, rfl⟩
  | cons w ws ih =>
    intro e t
    rw [wayFold, bestN]
    by_cases h : endsL (LL d) (LL w.f0) = true ∧ w.f0.size > e.size
    · rw [if_pos h, if_pos h]
      rcases ih w.f0 w.f1 with ⟨h1, h2⟩ | ⟨v, hv, h1, h2, h3, h4⟩
      · exact .inr ⟨w, List.mem_cons_self .., h.1, h2.symm, h1, by omega⟩
      · exact .inr ⟨v, List.mem_cons_of_mem _ hv, h1, h2, h3, by omega⟩
    · rw [if_neg h, if_neg h]
      rcases ih e t with h1 | ⟨v, hv, h1⟩
      · exact .inl h1
      · exact .inr ⟨v, List.mem_cons_of_mem _ hv, h1⟩
theorem l0_ev {n d : ByteArray} {own : List ByteArray} {ways : List IW} (hz : ConfS n own ways) (tw : ByteArray) (r : Bool) : ∀ m i : Nat, i + m = own.length → ∀ o : Bool,
    Ev (fun k => laws_FnWay.l1 k d tw (o || (own.drop i).any (fun s => decide (s = d))) 0 0 n own ways) r → Ev (fun k => laws_FnWay.l0 k d tw o (i : Int) n own ways) r := by
  have hlen := hz.2.1
  intro m
  induction m with
  | zero =>
    intro i hi o h
    rw [List.drop_of_length_le (by omega), List.any_nil, Bool.or_false] at h
    refine Ev.step (fun k => by rw [laws_FnWay.l0]) ?_
    refine Ev.neg (by omega) ?_
    exact h
  | succ m ih =>
    intro i hi o h
    rw [drop_rd own i (by omega), List.any_cons] at h
    refine Ev.step (fun k => by rw [laws_FnWay.l0]) (Ev.pos (by omega) ?_)
    rw [wsucc (by omega)]
    by_cases ho : o = true
    · rw [ho, Bool.true_or] at h
      exact Ev.pos ho (ih (i + 1) (by omega) true (by rw [Bool.true_or]; exact h))
    · refine Ev.neg ho (Ev.pos (by omega) (ih (i + 1) (by omega) _ ?_))
      rw [Bool.not_eq_true] at ho
      rw [ho, Bool.false_or] at h
      rw [toList_beq]
      exact h
section
variable {n d : ByteArray} {own : List ByteArray} {ways : List IW} (hz : ConfS n own ways) (hd : d.size ≤ 9) (hc : confL n own ways = true) (hdo : domL (LL d) = true)
include hz hd hc hdo
theorem wayIn_ev {i : Nat} (hi : i < ways.length) : Ev (fun k => impl_DomainIn.f k d ways[i].f0) (endsL (LL d) (LL ways[i].f0)) := by
  have hs := hz.2.2.2.2 _ (List.getElem_mem hi)
  have := implDomainIn_ev d ways[i].f0 (by omega) (by omega)
  have hw := List.all_eq_true.1 (confL_ways hc) _ (List.getElem_mem hi)
  unfold wayL at hw
  rw [Bool.and_eq_true] at hw
  unfold domIn at this
  rw [hdo, hw.1] at this
  exact this
theorem takesA_ev : Ev (fun k => impl_ConfTakes.f k n own ways ⟨#[97]⟩ d) (takesL own ways d) := by
  have := implConfTakes_ev hz.b ⟨#[97]⟩ d (by decide) (by omega)
  unfold confTakes addrL at this
  rw [hc, hdo] at this
  exact Ev.eq this (by rw [show wordL (LL (⟨#[97]⟩ : ByteArray)) = true by decide]; simp)
theorem l2_own (tw : ByteArray) (best : Int) (hto : tw = ⟨#[]⟩) (ho : ownHas own d = true) : ∀ m i : Nat, i + m = ways.length → ∀ x : Bool, Ev (fun k => laws_FnWay.l2 k d tw true best x (i : Int) n own ways) true := by
  have ht := takesA_ev hz hd hc hdo
  have hlen := hz.2.2.2.1
  intro m
  induction m with
  | zero =>
    intro i hi x
    refine Ev.step (fun k => by rw [laws_FnWay.l2]) (Ev.neg (by omega) (Ev.bnd ht (Ev.pos rfl (Ev.pos ?_ (Ev.pos (toList_BB.2 hto) (Ev.ret _))))))
    unfold takesL
    rw [ho]
    rfl
  | succ m ih =>
    intro i hi x
    refine Ev.step (fun k => by rw [laws_FnWay.l2]) (Ev.pos (by omega) ?_)
    rw [wsucc (by omega)]
    by_cases hx : x = true
    · exact Ev.pos hx (ih (i + 1) (by omega) true)
    · exact Ev.neg hx (Ev.pos (toList_BB.2 hto) (ih (i + 1) (by omega) false))
theorem l2_way (tw : ByteArray) (best : Nat) (htk : takesL own ways d = decide ((best : Int) > 0)) : ∀ m i : Nat, i + m = ways.length → ∀ x : Bool,
    (x = true ∨ (tw ≠ ⟨#[]⟩ ∧ ∃ w ∈ ways.drop i, tw = w.f1 ∧ w.f0.size = best ∧ endsL (LL d) (LL w.f0) = true)) → Ev (fun k => laws_FnWay.l2 k d tw false (best : Int) x (i : Int) n own ways) true := by
  have ht := takesA_ev hz hd hc hdo
  have hlen := hz.2.2.2.1
  intro m
  induction m with
  | zero =>
    intro i hi x hx
    rw [htk] at ht
    refine Ev.step (fun k => by rw [laws_FnWay.l2]) ?_
    refine Ev.neg (by omega) (Ev.bnd ht ?_)
    refine Ev.neg (by simp) ?_
    refine Ev.pos (by simp) (Ev.eq (Ev.ret _) ?_)
    rcases hx with hx | ⟨_, w, hw, _⟩
    · exact hx
    · rw [List.drop_of_length_le (by omega)] at hw
      cases hw
  | succ m ih =>
    intro i hi x hx
    have hil : i < ways.length := by omega
    refine Ev.step (fun k => by rw [laws_FnWay.l2]) (Ev.pos (by omega) ?_)
    rw [wsucc (by omega), rdIW ways i hil]
    by_cases hxt : x = true
    · exact Ev.pos hxt (ih (i + 1) (by omega) true (.inl rfl))
    · rcases hx with hx | ⟨hto, w, hw, hw1, hw2, hw3⟩
      · exact absurd hx hxt
      refine Ev.neg hxt (Ev.neg (fun e => hto (toList_BB.1 e)) (Ev.pos (by omega) ?_))
      rw [List.drop_eq_getElem_cons hil] at hw
      by_cases q : tw = ways[i].f1
      · refine Ev.pos (toList_eq.2 q) ?_
        by_cases q2 : ways[i].f0.size = best
        · refine Ev.pos (by omega) (Ev.bnd (wayIn_ev hz hd hc hdo hil) ?_)
          by_cases q3 : endsL (LL d) (LL ways[i].f0) = true
          · rw [q3]
            exact ih (i + 1) (by omega) true (.inl rfl)
          · have hne : w ≠ ways[i] := fun e => q3 (e ▸ hw3)
            refine ih (i + 1) (by omega) _ (.inr ⟨hto, w, ?_, hw1, hw2, hw3⟩)
            rcases List.mem_cons.1 hw with h | h
            · exact absurd h hne
            · exact h
        · have hne : w ≠ ways[i] := fun e => q2 (e ▸ hw2)
          refine Ev.neg (by omega) (ih (i + 1) (by omega) _ (.inr ⟨hto, w, ?_, hw1, hw2, hw3⟩))
          rcases List.mem_cons.1 hw with h | h
          · exact absurd h hne
          · exact h
      · have hne : w ≠ ways[i] := fun e => q (e ▸ hw1)
        refine Ev.neg (fun e => q (toList_eq.1 e)) (ih (i + 1) (by omega) _ (.inr ⟨hto, w, ?_, hw1, hw2, hw3⟩))
        rcases List.mem_cons.1 hw with h | h
        · exact absurd h hne
        · exact h
theorem l1_ev (tw : ByteArray) (o r : Bool) : ∀ m i : Nat, i + m = ways.length → ∀ best : Nat, best ≤ 20 →
    Ev (fun k => if ((bestN d (ways.drop i) best : Nat) : Int) = 0 then laws_FnWay.j3 k d tw o ((bestN d (ways.drop i) best : Nat) : Int) (tw.toList == ([] : List UInt8)) n own ways else laws_FnWay.j3 k d tw o ((bestN d (ways.drop i) best : Nat) : Int) false n own ways) r →
    Ev (fun k => laws_FnWay.l1 k d tw o (best : Int) (i : Int) n own ways) r := by
  have hlen := hz.2.2.2.1
  intro m
  induction m with
  | zero =>
    intro i hi best hb h
    rw [List.drop_of_length_le (by omega)] at h
    refine Ev.step (fun k => by rw [laws_FnWay.l1]) ?_
    refine Ev.neg (by omega) ?_
    exact h
  | succ m ih =>
    intro i hi best hb h
    have hil : i < ways.length := by omega
    have hs := hz.2.2.2.2 _ (List.getElem_mem hil)
    rw [List.drop_eq_getElem_cons hil, bestN] at h
    refine Ev.step (fun k => by rw [laws_FnWay.l1]) (Ev.pos (by omega) (Ev.pos (by omega) ?_))
    rw [wsucc (by omega), rdIW ways i hil]
    refine Ev.bnd (wayIn_ev hz hd hc hdo hil) ?_
    by_cases q : endsL (LL d) (LL ways[i].f0) = true
    · by_cases q2 : ways[i].f0.size > best
      · rw [if_pos ⟨q, q2⟩] at h
        exact Ev.pos q (Ev.pos (by omega) (ih (i + 1) (by omega) _ (by omega) h))
      · rw [if_neg (fun e => q2 e.2)] at h
        exact Ev.pos q (Ev.neg (by omega) (ih (i + 1) (by omega) _ hb h))
    · rw [if_neg (fun e => q e.1)] at h
      exact Ev.neg q (ih (i + 1) (by omega) _ hb h)
end
theorem domL_nilW : domL [] = false := by decide
theorem fnWay_pure : ∀ (l0 : List Int), (l0.length ≤ maxLen ∧ ∀ z ∈ l0, (Lit.int .u8 z).wf = true) → ∃ k, laws_FnWay.f k l0 = some true := by
  intro l hl
  refine Ev.ex ?_
  unfold laws_FnWay.f
  by_cases h : (l.length : Int) > 1048576
  · exact Ev.pos h (Ev.ret _)
  · obtain ⟨n, own, ways, d, hx, hz, hd⟩ := drawWayOf_ev l hl.2
    have hB := hz.b
    have e1 := implWayOf_ev hB d (by omega)
    have e2 := specWayOf_ev hB d (by omega)
    have c1 := hB.impl
    have c2 : Ev (fun k => spec_ConfOk.f k n own ways) (confL n own ways) := Ev.bnd hB.spec (Ev.ret _)
    have fin : Ev (fun k => laws_FnWay.j0 k d (wayOf n own ways d) true n own ways) true := by
      refine Ev.step (fun k => by rw [laws_FnWay.j0]) ?_
      exact Ev.pos rfl (Ev.bnd e2 (Ev.pos rfl (Ev.bnd c1 (Ev.bnd c2 (Ev.eq (Ev.ret _) (by simp))))))
    refine Ev.neg h (Ev.bnd hx (Ev.bnd e1 (Ev.bnd e2 (Ev.pos rfl (Ev.bnd c1 (Ev.bnd c2 (Ev.neg (by simp) (Ev.bnd c1 ?_))))))))
    by_cases hc : confL n own ways = true
    · refine Ev.pos hc (Ev.bnd (implDomainOk_ev d (by omega)) ?_)
      by_cases hdo : domL (LL d) = true
      · rw [hdo]
        refine Ev.step (fun k => by rw [laws_FnWay.j0]) (Ev.neg (by simp) ?_)
        refine l0_ev hz _ true own.length 0 (by omega) false ?_
        rw [List.drop_zero, Bool.false_or]
        refine l1_ev hz hd hc hdo _ _ true ways.length 0 (by omega) 0 (by omega) ?_
        rw [List.drop_zero]
        have ew : wayOf n own ways d = wayL2 own ways d := by unfold wayOf; rw [if_pos hc, if_pos hdo]
        by_cases ho : ownHas own d = true
        · have et : wayOf n own ways d = ⟨#[]⟩ := by rw [ew]; unfold wayL2; rw [if_pos ho]
          have eo : own.any (fun s => decide (s = d)) = true := ho
          rw [eo]
          have fin2 : ∀ (x : Bool), Ev (fun k => laws_FnWay.j3 k d (wayOf n own ways d) true ((bestN d ways 0 : Nat) : Int) x n own ways) true := fun x =>
            Ev.step (fun k => by rw [laws_FnWay.j3]; rfl) (l2_own hz hd hc hdo (wayOf n own ways d) ((bestN d ways 0 : Nat) : Int) et ho ways.length 0 (by omega) x)
          by_cases q : ((bestN d ways 0 : Nat) : Int) = 0
          · exact Ev.pos q (fin2 _)
          · exact Ev.neg q (fin2 _)
        · have eo : own.any (fun s => decide (s = d)) = false := by
            have h2 : ownHas own d = false := by simpa using ho
            exact h2
          rw [eo]
          have et : wayOf n own ways d = wayFold d ways ⟨#[]⟩ ⟨#[]⟩ := by rw [ew]; unfold wayL2; rw [if_neg ho]
          rw [Bool.not_eq_true] at ho
          have etk : takesL own ways d = !decide (wayOf n own ways d = ⟨#[]⟩) := by unfold takesL; rw [ho, Bool.false_or, et]
          rcases fold_best d ways ⟨#[]⟩ ⟨#[]⟩ with ⟨f1, f2⟩ | ⟨w, hw, f1, f2, f3, f4⟩
          · have f2 : bestN d ways 0 = 0 := f2
            rw [← et] at f1
            refine Ev.pos (by omega) (Ev.step (fun k => by rw [laws_FnWay.j3]) ?_)
            refine l2_way hz hd hc hdo _ _ (by rw [etk, f1, f2]; simp) ways.length 0 (by omega) _ (.inl ?_)
            rw [toList_nil, f1]
            simp
          · have f2 : w.f0.size = bestN d ways 0 := f2
            have f4 : bestN d ways 0 > 0 := f4
            rw [← et] at f3
            have hw1 := List.all_eq_true.1 (confL_ways hc) w hw
            unfold wayL at hw1
            rw [Bool.and_eq_true] at hw1
            have hne : wayOf n own ways d ≠ ⟨#[]⟩ := fun e => by
              rw [f3] at e
              rw [e] at hw1
              have := hw1.2
              rw [show LL (⟨#[]⟩ : ByteArray) = [] from rfl, domL_nilW] at this
              cases this
            refine Ev.neg (by omega) (Ev.step (fun k => by rw [laws_FnWay.j3]) ?_)
            refine l2_way hz hd hc hdo _ _ (by rw [etk, decide_eq_false hne]; symm; rw [Bool.not_false, decide_eq_true_eq]; omega) ways.length 0 (by omega) _ (.inr ⟨hne, w, by rw [List.drop_zero]; exact hw, f3, f2, f1⟩)
      · rw [Bool.not_eq_true] at hdo
        rw [hdo]
        exact fin
    · exact Ev.neg hc fin
end Go.Proofs.YtpeefjfklklhdaaDoor.Q
