/- Of a text of ours what this claim needs. -/
import Derived.Test.YthkibaldmjfmmaaDoorZzFnExactWayOfPBase
import Derived.Test.YthkibaldmjfmmaaDoorZzFnExactWayOfHSplit
import Derived.Lib.SplitLaws
import Derived.Lib.IndexLaws
import Derived.Test.YthkibaldmjfmmaaDoorZzFnExactWayOfQ5
import Derived.Test.YthkibaldmjfmmaaDoorZzFnExactWayOfQ3
import Derived.Test.YthkibaldmjfmmaaDoorZzFnExactWayOfQ4
import Derived.Test.YthkibaldmjfmmaaDoorZzFnExactWayOfQ8
import Derived.Test.YthkibaldmjfmmaaDoorZzFnExactWayOfQ16
import Derived.Test.YthkibaldmjfmmaaDoorZzFnExactWayOfQ19
namespace Go.Proofs.YthkibaldmjfmmaaDoor.Q
open Go.RowKit Go.Proofs.YthkibaldmjfmmaaDoorW.PrintWords Go.Proofs.YthkibaldmjfmmaaDoorW.PrintLast Go.Proofs.YthkibaldmjfmmaaDoorW.PrintMore
set_option linter.unusedVariables false
set_option linter.unusedSimpArgs false
theorem occ1_iff (l : List UInt8) (c : UInt8) (j : Nat) : Lib.occAt l [c] j = true ↔ l[j]? = some c := by
  unfold Lib.occAt
  have e0 : l[j]? = (l.drop j)[0]? := by rw [List.getElem?_drop, Nat.add_zero]
  rw [e0]
  cases l.drop j with
  | nil => simp [List.isPrefixOf]
  | cons a t => simp [List.isPrefixOf]; exact eq_comm
abbrev cuts (c : UInt8) (n : Nat) (l : List UInt8) : List (List UInt8) := Lib.splitK [c] 0 n l
theorem cuts_at {c : UInt8} {n i : Nat} {l : List UInt8} (h : Lib.index l [c] = (i : Int)) : cuts c (n + 1) l = l.take i :: cuts c n (l.drop (i + 1)) := by
  unfold cuts
  rw [Lib.splitK, if_neg (fun e => by have := beq_iff_eq.1 e; omega), h]
  rfl
theorem cuts_none {c : UInt8} {n : Nat} {l : List UInt8} (h : Lib.index l [c] = -1) : cuts c n l = [l] := by
  unfold cuts
  cases n with
  | zero => rfl
  | succ n => rw [Lib.splitK, if_pos (beq_iff_eq.2 h)]
theorem index1_cases (l : List UInt8) (c : UInt8) : Lib.index l [c] = -1 ∨ ∃ i : Nat, Lib.index l [c] = i ∧ i < l.length := by
  rcases Lib.index_spec l [c] with ⟨h, _⟩ | ⟨i, h, _⟩
  · exact .inl h
  · have := Lib.index_room l [c] (by omega)
    simp at this
    exact .inr ⟨i, h, by omega⟩
theorem cuts_hit {c : UInt8} {n i : Nat} {l : List UInt8} (hi : l[i]? = some c) (hno : ∀ j, j < i → l[j]? ≠ some c) : cuts c (n + 1) l = l.take i :: cuts c n (l.drop (i + 1)) := by
  have hil := (List.getElem?_eq_some_iff.1 hi).1
  refine cuts_at (Lib.index_first (by omega) ((occ1_iff l c i).2 hi) (fun j hj => ?_))
  rw [← Bool.not_eq_true, occ1_iff]
  exact hno j hj
theorem cuts_miss {c : UInt8} {n : Nat} {l : List UInt8} (hno : ∀ j : Nat, l[j]? ≠ some c) : cuts c n l = [l] := by
  refine cuts_none ?_
  have : Lib.index l [c] = -1 := Lib.index_none (fun j _ => by rw [← Bool.not_eq_true, occ1_iff]; exact hno j)
  exact this
theorem cuts_len (c : UInt8) : ∀ (n : Nat) (l : List UInt8), (cuts c n l).length = min n (Lib.count l [c]) + 1 := by
  intro n
  induction n with
  | zero => intro l; simp [Lib.splitK]
  | succ n ih =>
    intro l
    rcases index1_cases l c with h | ⟨i, h, _⟩
    · rw [cuts_none h, Lib.count_miss h]; simp
    · rw [cuts_at h, List.length_cons, ih, Lib.count_hit (by simp) h]
      simp only [List.length_cons, List.length_nil, Nat.zero_add]
      omega
theorem cuts_more (c : UInt8) : ∀ (n : Nat) (l : List UInt8), Lib.count l [c] ≤ n → cuts c n l = cuts c (Lib.count l [c]) l := by
  intro n
  induction n with
  | zero => intro l h; rw [show Lib.count l [c] = 0 by omega]
  | succ n ih =>
    intro l h
    rcases index1_cases l c with hm | ⟨i, hm, _⟩
    · rw [cuts_none hm, cuts_none hm]
    · have e := Lib.count_hit (s := l) (sub := [c]) (by simp) hm
      simp only [List.length_cons, List.length_nil, Nat.zero_add] at e
      rw [cuts_at hm, e, Nat.add_comm 1, cuts_at hm, ih _ (by omega)]
theorem splitL_eq (s : ByteArray) (c : UInt8) : splitL s ⟨#[c]⟩ = (cuts c (Lib.count (LL s) [c]) (LL s)).map BB := by
  have h := Lib.splitB_data ⟨#[c]⟩ 0 (Lib.countB s ⟨#[c]⟩) s
  have e : (splitL s ⟨#[c]⟩).map LL = cuts c (Lib.count (LL s) [c]) (LL s) := h
  rw [← e, List.map_map]
  conv => lhs; rw [← List.map_id (splitL s ⟨#[c]⟩)]
  exact List.map_congr_left (fun x _ => (BB_LL x).symm)
theorem splitL_len (s : ByteArray) (c : UInt8) : (splitL s ⟨#[c]⟩).length ≤ s.size + 1 := by
  unfold splitL
  have h1 := Lib.splitB_length_le ⟨#[c]⟩ 0 (Lib.countB s ⟨#[c]⟩) s
  have h2 := Lib.countB_le ⟨#[c]⟩ (Nat.le_refl 1) s.size s (Nat.le_refl _)
  omega
theorem l1Cut_loop (s : ByteArray) (c : UInt8) (n : Nat) (hn : n ≤ 1000000) (hm : s.size ≤ 1099511627776) : ∀ d i : Nat, i + d = s.size → ∀ (out : List ByteArray) (a m : Nat), a ≤ i → out.length + m = n → (∀ j, a ≤ j → j < i → (LL s)[j]? ≠ some c) →
    Ev (fun k => spec_l1Cut.l0 k s (c.toNat : Int) (n : Int) out (a : Int) (i : Int)) (out ++ (cuts c m ((LL s).drop a)).map BB) := by
  have hsz := size_LL s
  have hlast : ∀ (out : List ByteArray) (a i : Nat), a ≤ s.size → out.length ≤ 1000000 → Ev (fun k => spec_l1Cut.j1 k s (c.toNat : Int) (n : Int) out (a : Int) (i : Int) false) (out ++ [BB ((LL s).drop a)]) := by
    intro out a i ha ho
    refine Ev.step (fun k => by rw [spec_l1Cut.j1]) ?_
    refine Ev.neg (by simp) (Ev.pos (by omega) (Ev.pos (by omega) (Ev.pos (by omega) (Ev.eq (Ev.ret _) ?_))))
    rw [Int.toNat_natCast, extract_BB, List.take_of_length_le (by rw [List.length_drop]; omega)]
  intro d
  induction d with
  | zero =>
    intro i hi out a m hai hom hno
    refine Ev.step (fun k => by rw [spec_l1Cut.l0]) ?_
    refine Ev.neg (by omega) ?_
    rw [cuts_miss (fun j => ?_)]
    · exact hlast out a i (by omega) (by omega)
    · rw [List.getElem?_drop]
      by_cases hj : a + j < i
      · exact hno _ (by omega) hj
      · rw [List.getElem?_eq_none (by omega)]; simp
  | succ d ih =>
    intro i hi out a m hai hom hno
    refine Ev.step (fun k => by rw [spec_l1Cut.l0]) ?_
    refine Ev.pos (by omega) ?_
    cases m with
    | zero =>
      rw [show (decide ((out.length : Int) < (n : Int))) = false by rw [decide_eq_false_iff_not]; omega]
      exact hlast out a i (by omega) (by omega)
    | succ m =>
      rw [show (decide ((out.length : Int) < (n : Int))) = true by rw [decide_eq_true_eq]; omega]
      refine Ev.step (fun k => by rw [spec_l1Cut.j1]) ?_
      refine Ev.pos rfl (Ev.pos (by omega) (Ev.pos (by omega) ?_))
      obtain ⟨b, hb, hbt⟩ := bt_get s i (by omega)
      rw [hbt, wsucc (by omega)]
      by_cases h : b = c
      · subst h
        refine Ev.pos rfl (Ev.pos (by omega) (Ev.pos (by omega) (Ev.pos (by omega) (Ev.pos (by omega) ?_))))
        have e := cuts_hit (c := b) (n := m) (i := i - a) (l := (LL s).drop a) (by rw [List.getElem?_drop, show a + (i - a) = i by omega]; exact hb) (fun j hj => by rw [List.getElem?_drop]; exact hno _ (by omega) (by omega))
        rw [e, List.drop_drop, show a + (i - a + 1) = i + 1 by omega]
        refine Ev.eq (ih (i + 1) (by omega) _ (i + 1) m (Nat.le_refl _) (by simp; omega) (fun j h1 h2 => by omega)) ?_
        rw [Int.toNat_natCast, Int.toNat_natCast, extract_BB, List.append_assoc]
        rfl
      · refine Ev.neg (fun e => h (u8_ext (by omega))) ?_
        refine ih (i + 1) (by omega) out a (m + 1) (by omega) hom (fun j h1 h2 => ?_)
        by_cases hj : j < i
        · exact hno j h1 hj
        · rw [show j = i by omega, hb]
          simpa using h
theorem l1Cut_ev (s : ByteArray) (c : UInt8) (n : Nat) (hn : n ≤ 1000000) (hm : s.size ≤ 1099511627776) : Ev (fun k => spec_l1Cut.f k s (c.toNat : Int) (n : Int)) ((cuts c n (LL s)).map BB) := by
  have := l1Cut_loop s c n hn hm s.size 0 (by omega) [] 0 n (Nat.le_refl _) (by simp) (fun j _ h => by omega)
  exact this
def wordCh (b : UInt8) : Bool := decide (97 ≤ b.toNat ∧ b.toNat ≤ 122) || decide (48 ≤ b.toNat ∧ b.toNat ≤ 57)
def wordL (l : List UInt8) : Bool := l.all wordCh && decide (1 ≤ l.length ∧ l.length ≤ 8)
theorem l1In_ev (a b c : Int) : spec_l1In.f a b c = some (decide (b ≤ a ∧ a ≤ c)) := by
  unfold spec_l1In.f
  by_cases h : a ≥ b
  · rw [if_pos h]
    congr 1
    rw [decide_eq_decide]
    omega
  · rw [if_neg h]
    congr 1
    symm
    rw [decide_eq_false_iff_not]
    omega
theorem within_ev (a b c : Int) : impl_within.f a b c = some (decide (b ≤ a ∧ a ≤ c)) := l1In_ev a b c
theorem l1Word_loop (s : ByteArray) (hm : s.size ≤ 9223372036854775807) : ∀ d i : Nat, i + d = s.size → Ev (fun k => spec_l1Word.l0 k s (i : Int)) (((LL s).drop i).all wordCh && decide (1 ≤ (LL s).length ∧ (LL s).length ≤ 8)) := by
  have hsz := size_LL s
  intro d
  induction d with
  | zero =>
    intro i hi
    refine Ev.step (fun k => by rw [spec_l1Word.l0]) ?_
    refine Ev.neg (by omega) (Ev.bnd (Ev.k (l1In_ev _ _ _)) (Ev.eq (Ev.ret _) ?_))
    rw [List.drop_of_length_le (by omega), List.all_nil, Bool.true_and, decide_eq_decide]
    omega
  | succ d ih =>
    intro i hi
    obtain ⟨c, hc, hb⟩ := drop_bt s i (by omega)
    have := ih (i + 1) (by omega)
    refine Ev.step (fun k => by rw [spec_l1Word.l0]) ?_
    refine Ev.pos (by omega) (Ev.pos (by omega) ?_)
    rw [hb, hc, List.all_cons, wsucc (by omega)]
    by_cases h : wordCh c = true
    · rw [h, Bool.true_and]
      unfold wordCh at h
      simp only [Bool.or_eq_true, decide_eq_true_eq] at h
      by_cases h1 : (c.toNat : Int) < 97
      · exact Ev.pos h1 (Ev.neg (by omega) (Ev.neg (by omega) this))
      · exact Ev.neg h1 (Ev.neg (by omega) this)
    · rw [Bool.not_eq_true] at h
      rw [h, Bool.false_and, Bool.false_and]
      unfold wordCh at h
      simp only [Bool.or_eq_false_iff, decide_eq_false_iff_not] at h
      by_cases h1 : (c.toNat : Int) < 97
      · refine Ev.pos h1 ?_
        by_cases h2 : (c.toNat : Int) < 48
        · exact Ev.pos h2 (Ev.ret _)
        · exact Ev.neg h2 (Ev.pos (by omega) (Ev.ret _))
      · exact Ev.neg h1 (Ev.pos (by omega) (Ev.neg (by omega) (Ev.pos (by omega) (Ev.ret _))))
theorem l1Word_ev (s : ByteArray) (hm : s.size ≤ 9223372036854775807) : Ev (fun k => spec_l1Word.f k s) (wordL (LL s)) := l1Word_loop s hm s.size 0 (by omega)
theorem dropWhile_nil (p : UInt8 → Bool) (l : List UInt8) : l.dropWhile p = [] ↔ ∀ x ∈ l, p x = true := by
  induction l with
  | nil => simp
  | cons a t ih =>
    rw [List.dropWhile_cons]
    by_cases h : p a = true
    · rw [if_pos h, ih]
      constructor
      · intro e x hx
        rcases List.mem_cons.1 hx with q | hx
        · rw [q]; exact h
        · exact e x hx
      · intro e x hx
        exact e x (List.mem_cons_of_mem _ hx)
    · rw [if_neg h]
      constructor
      · intro e; cases e
      · intro e; exact absurd (e a (List.mem_cons_self ..)) h
theorem trimS_nil (l cs : List UInt8) : Lib.trimS l cs = [] ↔ l.all (cs.contains ·) = true := by
  unfold Lib.trimS Lib.trimLeftS Lib.trimRightS
  rw [dropWhile_nil]
  constructor
  · intro h
    have : l.reverse.dropWhile (cs.contains ·) = [] := by
      cases e : l.reverse.dropWhile (cs.contains ·) with
      | nil => rfl
      | cons y t =>
        have h1 := h y (by rw [e]; simp)
        have h2 := List.head_dropWhile_not (p := (cs.contains ·)) (l := l.reverse) (by rw [e]; simp)
        simp only [e, List.head_cons] at h2
        rw [h1] at h2
        cases h2
    rw [dropWhile_nil] at this
    rw [List.all_eq_true]
    exact fun x hx => this x (List.mem_reverse.2 hx)
  · intro h x hx
    rw [List.all_eq_true] at h
    have : x ∈ l.reverse := (List.dropWhile_sublist _).subset (List.mem_reverse.1 hx)
    exact h x (List.mem_reverse.1 this)
def wordCs : List UInt8 := [97, 98, 99, 100, 101, 102, 103, 104, 105, 106, 107, 108, 109, 110, 111, 112, 113, 114, 115, 116, 117, 118, 119, 120, 121, 122, 48, 49, 50, 51, 52, 53, 54, 55, 56, 57]
theorem wordCs_all : ∀ n : Fin 256, wordCs.contains (UInt8.ofNat n.val) = wordCh (UInt8.ofNat n.val) := by decide +kernel
theorem wordCs_ok (b : UInt8) : wordCs.contains b = wordCh b := by
  have := wordCs_all ⟨b.toNat, b.toNat_lt⟩
  simpa using this
theorem isLabel_f (s : ByteArray) (hm : s.size ≤ 9223372036854775807) : impl_isLabel.f s = some (wordL (LL s)) := by
  have hsz := size_LL s
  unfold impl_isLabel.f wordL
  rw [within_ev]
  simp only [Option.bind_some]
  by_cases h : (1 : Int) ≤ (s.size : Int) ∧ (s.size : Int) ≤ 8
  · rw [if_pos (by simpa using h)]
    have ht : strings_Trim.f s (⟨#[97, 98, 99, 100, 101, 102, 103, 104, 105, 106, 107, 108, 109, 110, 111, 112, 113, 114, 115, 116, 117, 118, 119, 120, 121, 122, 48, 49, 50, 51, 52, 53, 54, 55, 56, 57]⟩ : ByteArray) = some (BB (Lib.trimS (LL s) wordCs)) := by
      unfold strings_Trim.f
      rw [if_pos ⟨hm, by decide, by decide⟩]
      rfl
    rw [ht]
    simp only [Option.bind_some]
    rw [show decide (1 ≤ (LL s).length ∧ (LL s).length ≤ 8) = true by rw [decide_eq_true_eq]; omega, Bool.and_true]
    congr 1
    rw [Bool.eq_iff_iff, beq_iff_eq, toList_BB]
    have e : BB (Lib.trimS (LL s) wordCs) = BB [] ↔ Lib.trimS (LL s) wordCs = [] := ⟨fun e => by have := congrArg LL e; rw [LL_BB, LL_BB] at this; exact this, fun e => by rw [e]⟩
    rw [e, trimS_nil]
    have : (fun x => wordCs.contains x) = wordCh := funext wordCs_ok
    rw [this]
  · rw [if_neg (by simpa using h)]
    rw [show decide (1 ≤ (LL s).length ∧ (LL s).length ≤ 8) = false by rw [decide_eq_false_iff_not]; omega, Bool.and_false]
def domL (l : List UInt8) : Bool := (cuts 46 3 l).all wordL && decide ((cuts 46 3 l).length ≤ 3)
theorem domL_all (l : List UInt8) : domL l = ((cuts 46 (Lib.count l [46]) l).all wordL && decide ((cuts 46 (Lib.count l [46]) l).length ≤ 3)) := by
  unfold domL
  by_cases h : Lib.count l [46] ≤ 3
  · rw [cuts_more 46 3 l h]
  · have e1 := cuts_len 46 3 l
    have e2 := cuts_len 46 (Lib.count l [46]) l
    rw [show decide ((cuts 46 3 l).length ≤ 3) = false by rw [decide_eq_false_iff_not]; omega, show decide ((cuts 46 (Lib.count l [46]) l).length ≤ 3) = false by rw [decide_eq_false_iff_not]; omega, Bool.and_false, Bool.and_false]
theorem all_drop_rd (x : List ByteArray) (i : Nat) (h : i < x.length) (p : ByteArray → Bool) : (x.drop i).all p = (p (rdOf ByteArray.empty x (i : Int)) && (x.drop (i + 1)).all p) := by rw [drop_rd x i h, List.all_cons]
theorem l1Domain_loop (x : List ByteArray) (hx : x.length ≤ 1000000) (hs : ∀ s ∈ x, s.size ≤ 9223372036854775807) : ∀ d i : Nat, i + d = x.length → Ev (fun k => spec_l1Domain.l0 k x (i : Int)) ((x.drop i).all (fun s => wordL (LL s)) && decide (x.length ≤ 3)) := by
  intro d
  induction d with
  | zero =>
    intro i hi
    refine Ev.step (fun k => by rw [spec_l1Domain.l0]) ?_
    refine Ev.neg (by omega) (Ev.eq (Ev.ret _) ?_)
    rw [List.drop_of_length_le (by omega), List.all_nil, Bool.true_and, decide_eq_decide]
    omega
  | succ d ih =>
    intro i hi
    refine Ev.step (fun k => by rw [spec_l1Domain.l0]) ?_
    refine Ev.pos (by omega) (Ev.pos (by omega) (Ev.bnd (l1Word_ev _ (hs _ (mem_rd x i (by omega)))) ?_))
    rw [all_drop_rd x i (by omega), wsucc (by omega)]
    by_cases h : wordL (LL (rdOf ByteArray.empty x (i : Int))) = true
    · refine Ev.pos h (Ev.eq (ih (i + 1) (by omega)) ?_)
      rw [h, Bool.true_and]
    · refine Ev.neg h (Ev.eq (Ev.ret _) ?_)
      rw [Bool.not_eq_true] at h
      rw [h, Bool.false_and, Bool.false_and]
theorem cuts_size (c : UInt8) : ∀ (n : Nat) (l : List UInt8), ∀ p ∈ cuts c n l, p.length ≤ l.length := by
  intro n
  induction n with
  | zero => intro l p hp; rw [List.mem_singleton.1 hp]; exact Nat.le_refl _
  | succ n ih =>
    intro l p hp
    rcases index1_cases l c with h | ⟨i, h, _⟩
    · rw [cuts_none h] at hp
      rw [List.mem_singleton.1 hp]; exact Nat.le_refl _
    · rw [cuts_at h] at hp
      rcases List.mem_cons.1 hp with rfl | hp
      · rw [List.length_take]; omega
      · have := ih _ p hp
        rw [List.length_drop] at this
        omega
theorem l1Domain_ev (s : ByteArray) (hm : s.size ≤ 1099511627776) : Ev (fun k => spec_l1Domain.f k s) (domL (LL s)) := by
  have hsz := size_LL s
  unfold spec_l1Domain.f
  refine Ev.bnd (l1Cut_ev s 46 3 (by omega) hm) ?_
  have hl := cuts_len 46 3 (LL s)
  have := l1Domain_loop ((cuts 46 3 (LL s)).map BB) (by rw [List.length_map]; omega) (fun t ht => by
    obtain ⟨u, hu, rfl⟩ := List.mem_map.1 ht
    have := cuts_size 46 3 (LL s) u hu
    rw [size_BB]
    omega) _ 0 (by simp; rfl)
  refine Ev.eq this ?_
  unfold domL
  rw [List.drop_zero, List.all_map, List.length_map]
  rfl
theorem implDomainOk_loop (x3 x : List ByteArray) (h3 : x3.length ≤ 1099511627777) (hx : x.length ≤ 1099511627777) (hs : ∀ s ∈ x, s.size ≤ 9223372036854775807) : ∀ d i : Nat, i + d = x.length → Ev (fun k => impl_DomainOk.l0 k x3 x (x.length : Int) (i : Int)) ((x.drop i).all (fun s => wordL (LL s)) && decide (x3.length ≤ 3)) := by
  intro d
  induction d with
  | zero =>
    intro i hi
    refine Ev.step (fun k => by rw [impl_DomainOk.l0]) ?_
    refine Ev.neg (by omega) (Ev.eq (Ev.ret _) ?_)
    rw [List.drop_of_length_le (by omega), List.all_nil, Bool.true_and, decide_eq_decide]
    omega
  | succ d ih =>
    intro i hi
    refine Ev.step (fun k => by rw [impl_DomainOk.l0]) ?_
    refine Ev.pos (by omega) (Ev.pos (by omega) (Ev.pos (by omega) (Ev.bnd (Ev.k (isLabel_f _ (hs _ (mem_rd x i (by omega))))) ?_)))
    rw [all_drop_rd x i (by omega), wsucc (by omega)]
    by_cases h : wordL (LL (rdOf ByteArray.empty x (i : Int))) = true
    · refine Ev.pos h (Ev.eq (ih (i + 1) (by omega)) ?_)
      rw [h, Bool.true_and]
    · refine Ev.neg h (Ev.eq (Ev.ret _) ?_)
      rw [Bool.not_eq_true] at h
      rw [h, Bool.false_and, Bool.false_and]
theorem implDomainOk_ev (s : ByteArray) (hm : s.size ≤ 4294967280) : Ev (fun k => impl_DomainOk.f k s) (domL (LL s)) := by
  have hsz := size_LL s
  unfold impl_DomainOk.f
  have hl := splitL_len s 46
  have hf : strings_Split.f s ⟨#[46]⟩ = some (splitL s ⟨#[46]⟩) := by
    unfold strings_Split.f
    rw [if_pos ⟨by omega, by decide, by omega⟩]
  refine Ev.bnd (Ev.k hf) ?_
  have hmem : ∀ t ∈ splitL s ⟨#[46]⟩, t.size ≤ 9223372036854775807 := fun t ht => by
    rw [splitL_eq] at ht
    obtain ⟨u, hu, rfl⟩ := List.mem_map.1 ht
    have := cuts_size 46 _ (LL s) u hu
    rw [size_BB]
    omega
  refine Ev.eq (implDomainOk_loop _ (splitL s ⟨#[46]⟩) (by omega) (by omega) hmem _ 0 (by simp; rfl)) ?_
  rw [domL_all, List.drop_zero, splitL_eq, List.all_map, List.length_map]
  rfl
def endsL (a b : List UInt8) : Bool := decide (a = b) || decide (b.length < a.length ∧ a.drop (a.length - b.length - 1) = 46 :: b)
theorem l1Ends_f (a b : ByteArray) (ha : a.size ≤ 1099511627776) (hb : b.size ≤ 1099511627776) : spec_l1Ends.f a b = some (endsL (LL a) (LL b)) := by
  have hsa := size_LL a
  have hsb := size_LL b
  unfold spec_l1Ends.f endsL
  rw [w64 (x := (a.size : Int) - (b.size : Int)) (by omega) (by omega)]
  by_cases h : a = b
  · subst h
    rw [if_pos rfl]
    simp
  · rw [if_neg (fun e => h (toList_eq.1 e)), show decide (LL a = LL b) = false by rw [decide_eq_false_iff_not]; exact fun e => h (LL_inj e), Bool.false_or]
    by_cases h1 : (a.size : Int) - (b.size : Int) > 0
    · rw [if_pos h1, if_pos (by omega), if_pos (by omega), w64 (x := (a.size : Int) - (b.size : Int) - 1) (by omega) (by omega)]
      obtain ⟨m, hm⟩ : ∃ m : Nat, a.size = b.size + 1 + m := ⟨a.size - b.size - 1, by omega⟩
      have e1 : ((a.size : Int) - (b.size : Int)).toNat = m + 1 := by omega
      have e2 : (a.size : Int) - (b.size : Int) - 1 = (m : Int) := by omega
      have e3 : (LL a).length - (LL b).length - 1 = m := by omega
      rw [e1, e2, e3]
      obtain ⟨c, hc, hbt⟩ := drop_bt a m (by omega)
      rw [hbt, hc]
      have hx : (a.extract (m + 1) a.size).toList = b.toList ↔ (LL a).drop (m + 1) = LL b := by
        rw [toList_LL, toList_LL, LL_extract, List.take_of_length_le (by rw [List.length_drop]; omega)]
      by_cases h2 : (LL a).drop (m + 1) = LL b
      · rw [if_pos (hx.2 h2), if_pos (by omega), if_pos (by omega)]
        congr 1
        rw [Bool.eq_iff_iff, beq_iff_eq, decide_eq_true_eq, h2]
        constructor
        · intro e
          exact ⟨by omega, by rw [show c = 46 from u8_ext (by simp; omega)]⟩
        · intro e
          have := (List.cons.inj e.2).1
          rw [this]; rfl
      · rw [if_neg (fun e => h2 (hx.1 e))]
        congr 1
        symm
        rw [decide_eq_false_iff_not]
        exact fun e => h2 (List.cons.inj e.2).2
    · rw [if_neg h1]
      congr 1
      symm
      rw [decide_eq_false_iff_not]
      omega
theorem hasSuffix_f (a b : ByteArray) (ha : a.size ≤ 9223372036854775807) (hb : b.size ≤ 9223372036854775807) : strings_HasSuffix.f a b = some (decide (b.size ≤ a.size ∧ (LL a).drop (a.size - b.size) = LL b)) := by
  have hsa := size_LL a
  have hsb := size_LL b
  unfold strings_HasSuffix.f stringslite_HasSuffix.f
  by_cases h : (a.size : Int) ≥ (b.size : Int)
  · rw [if_pos h, w64 (x := (a.size : Int) - (b.size : Int)) (by omega) (by omega), if_pos (by omega), if_pos (by omega)]
    simp only [Option.bind_some]
    congr 1
    rw [Bool.eq_iff_iff, beq_iff_eq, decide_eq_true_eq, toList_LL, toList_LL, LL_extract, show ((a.size : Int) - (b.size : Int)).toNat = a.size - b.size by omega, List.take_of_length_le (by rw [List.length_drop]; omega)]
    exact ⟨fun e => ⟨by omega, e⟩, fun e => e.2⟩
  · rw [if_neg h]
    simp only [Option.bind_some]
    congr 1
    symm
    rw [decide_eq_false_iff_not]
    omega
theorem endsL_suffix (a b : ByteArray) : endsL (LL a) (LL b) = (decide (a = b) || decide (1 + b.size ≤ a.size ∧ (LL a).drop (a.size - (1 + b.size)) = 46 :: LL b)) := by
  have hsa := size_LL a
  have hsb := size_LL b
  unfold endsL
  congr 1
  · rw [decide_eq_decide]
    exact ⟨fun e => LL_inj e, fun e => by rw [e]⟩
  · rw [decide_eq_decide, show (LL a).length - (LL b).length - 1 = a.size - (1 + b.size) by omega]
    constructor
    · intro e; exact ⟨by omega, e.2⟩
    · intro e; exact ⟨by omega, e.2⟩
end Go.Proofs.YthkibaldmjfmmaaDoor.Q
