/- Of texts of ours what this claim needs. -/
import Derived.Test.YthkibaldmjfmmaaGreatDoorZzFnMailPutSQ0
import Derived.Lib.Index
import Derived.Lib.IndexMore
import Derived.Lib.Strings
import Derived.Test.YthkibaldmjfmmaaGreatDoorZzFnMailPutSQ11
import Derived.Test.YthkibaldmjfmmaaGreatDoorZzFnMailPutSQ12
import Derived.Test.YthkibaldmjfmmaaGreatDoorZzFnMailPutSQ13
import Derived.Test.YthkibaldmjfmmaaGreatDoorZzFnMailPutSQ14
import Derived.Test.YthkibaldmjfmmaaGreatDoorZzFnMailPutSQ20
import Derived.Test.YthkibaldmjfmmaaGreatDoorZzFnMailPutSQ8
import Derived.Lib.IndexLaws
import Derived.Test.YthkibaldmjfmmaaGreatDoorZzFnMailPutSQ15
import Derived.Test.YthkibaldmjfmmaaGreatDoorZzFnMailPutSHDot
import Derived.Test.YthkibaldmjfmmaaGreatDoorZzFnMailPutSQ16
import Derived.Test.YthkibaldmjfmmaaGreatDoorZzFnMailPutSQ2
import Derived.Test.YthkibaldmjfmmaaGreatDoorZzFnMailPutSQ3
import Derived.Test.YthkibaldmjfmmaaGreatDoorZzFnMailPutSQ5
import Derived.Test.YthkibaldmjfmmaaGreatDoorZzFnMailPutSQ4
import Derived.Test.YthkibaldmjfmmaaGreatDoorZzFnMailPutSQ17
import Derived.Test.YthkibaldmjfmmaaGreatDoorZzFnMailPutSHSplit
import Derived.Lib.SplitLaws
import Derived.Test.YthkibaldmjfmmaaGreatDoorZzFnMailPutSQ10
import Derived.Test.YthkibaldmjfmmaaGreatDoorZzFnMailPutSQ9
import Derived.Test.YthkibaldmjfmmaaGreatDoorZzFnMailPutSQ6
import Derived.Test.YthkibaldmjfmmaaGreatDoorZzFnMailPutSQ7
import Derived.Test.YthkibaldmjfmmaaGreatDoorZzFnMailPutSHDist
import Derived.Test.YthkibaldmjfmmaaGreatDoorZzFnMailPutSQ18
namespace Go.Proofs.YthkibaldmjfmmaaGreatDoor.Q
open Go.RowKit Go.Proofs.YthkibaldmjfmmaaGreatDoorW.PrintWords Go.Proofs.YthkibaldmjfmmaaGreatDoorW.PrintLast Go.Proofs.YthkibaldmjfmmaaGreatDoorW.PrintMore
set_option linter.unusedVariables false
set_option linter.unusedSimpArgs false
section rounds
variable {α β : Type} {g g' f : Nat → Option α} {r : α}
theorem Ev.pos {c : Prop} [Decidable c] (h : c) (e : Ev g r) : Ev (fun k => if c then g k else g' k) r := by
 obtain ⟨K, hK⟩ := e
 exact ⟨K, fun k hk => (if_pos h).trans (hK k hk)⟩
theorem Ev.neg {c : Prop} [Decidable c] (h : ¬ c) (e : Ev g' r) : Ev (fun k => if c then g k else g' k) r := by
 obtain ⟨K, hK⟩ := e
 exact ⟨K, fun k hk => (if_neg h).trans (hK k hk)⟩
theorem Ev.ret (r : α) : Ev (fun _ => some r) r := ⟨0, fun _ _ => rfl⟩
theorem Ev.k {x : Option α} (h : x = some r) : Ev (fun _ => x) r := ⟨0, fun _ _ => h⟩
theorem Ev.bnd {h : Nat → Option α} {F : Nat → α → Option β} {a : α} {r : β} (e : Ev h a) (k : Ev (fun n => F n a) r) : Ev (fun n => (h n).bind (F n)) r := Ev.bind e k
theorem Ev.eq {r' : α} (e : Ev g r) (h : r = r') : Ev g r' := h ▸ e
theorem Ev.ex (h : Ev g r) : ∃ k, g k = some r := by
 obtain ⟨K, hK⟩ := h
 exact ⟨K, hK K (Nat.le_refl _)⟩
end rounds
theorem w64 {x : Int} (h0 : -9223372036854775808 ≤ x) (h1 : x ≤ 9223372036854775807) : wrap64 x = x := by unfold wrap64; omega
theorem wsucc {i : Nat} (h : i ≤ 9223372036854775806) : wrap64 ((i : Int) + 1) = ((i + 1 : Nat) : Int) := by rw [w64 (by omega) (by omega)]; omega
theorem wf_u8 {x : Int} (h : (Lit.int .u8 x).wf = true) : 0 ≤ x ∧ x ≤ 255 := by
 simpa [Lit.wf, IntKind.min, IntKind.max, IntKind.signed, IntKind.bits] using h
abbrev LL (s : ByteArray) : List UInt8 := s.data.toList
abbrev BB (l : List UInt8) : ByteArray := ⟨l.toArray⟩
theorem BB_LL (s : ByteArray) : BB (LL s) = s := by cases s; simp
theorem LL_BB (l : List UInt8) : LL (BB l) = l := by simp
theorem LL_inj {a b : ByteArray} (h : LL a = LL b) : a = b := by rw [← BB_LL a, ← BB_LL b, h]
theorem toList_LL (s : ByteArray) : s.toList = LL s := Lib.toList_data s
theorem toList_eq {a b : ByteArray} : a.toList = b.toList ↔ a = b := by
 rw [toList_LL, toList_LL]
 exact ⟨LL_inj, fun h => by rw [h]⟩
theorem toList_beq (a b : ByteArray) : (a.toList == b.toList) = decide (a = b) := by
 by_cases h : a = b
 ·subst h; simp
 ·rw [decide_eq_false h, beq_eq_false_iff_ne]
  exact fun e => h (toList_eq.1 e)
theorem toList_BB {a : ByteArray} {l : List UInt8} : a.toList = l ↔ a = BB l := by
 rw [toList_LL]
 constructor
 ·intro h; rw [← BB_LL a, h]
 ·intro h; rw [h, LL_BB]
theorem size_LL (s : ByteArray) : s.size = (LL s).length := Lib.size_eq s
theorem size_BB (l : List UInt8) : (BB l).size = l.length := by rw [size_LL, LL_BB]
theorem LL_append (a b : ByteArray) : LL (a ++ b) = LL a ++ LL b := by unfold LL; rw [ByteArray.data_append, Array.toList_append]
theorem LL_extract (s : ByteArray) (a b : Nat) : LL (s.extract a b) = ((LL s).drop a).take (b - a) := Lib.extract_data s a b
theorem extract_BB (s : ByteArray) (a b : Nat) : s.extract a b = BB (((LL s).drop a).take (b - a)) := LL_inj (by rw [LL_extract, LL_BB])
theorem size_append (a b : ByteArray) : (a ++ b).size = a.size + b.size := by rw [size_LL, LL_append, List.length_append, ← size_LL, ← size_LL]
theorem size_zero {s : ByteArray} (h : s.size = 0) : s = ⟨#[]⟩ := LL_inj (by rw [size_LL] at h; exact List.eq_nil_of_length_eq_zero h)
theorem bt_get (s : ByteArray) (i : Nat) (h : i < s.size) : ∃ c, (LL s)[i]? = some c ∧ bt s (i : Int) = (c.toNat : Int) := by
 have hl : i < (LL s).length := by rw [← size_LL]; exact h
 refine ⟨(LL s)[i], List.getElem?_eq_getElem hl, ?_⟩
 unfold bt
 simp only [Int.toNat_natCast]
 rw [dif_pos h]
 rfl
theorem drop_bt (s : ByteArray) (i : Nat) (h : i < s.size) : ∃ c, (LL s).drop i = c :: (LL s).drop (i + 1) ∧ bt s (i : Int) = (c.toNat : Int) := by
 obtain ⟨c, hc, hb⟩ := bt_get s i h
 have hl : i < (LL s).length := by rw [← size_LL]; exact h
 refine ⟨c, ?_, hb⟩
 rw [List.drop_eq_getElem_cons hl]
 rw [List.getElem?_eq_getElem hl] at hc
 rw [Option.some.inj hc]
theorem u8_ext {c d : UInt8} (h : c.toNat = d.toNat) : c = d := UInt8.toNat.inj h
theorem rd_get (l : List ByteArray) (i : Nat) (h : i < l.length) : rdOf ByteArray.empty l (i : Int) = l[i] := by
 unfold rdOf
 rw [Int.toNat_natCast, List.getD_eq_getElem?_getD, List.getElem?_eq_getElem h]
 rfl
theorem drop_rd (l : List ByteArray) (i : Nat) (h : i < l.length) : l.drop i = rdOf ByteArray.empty l (i : Int) :: l.drop (i + 1) := by
 rw [rd_get l i h, List.drop_eq_getElem_cons h]
theorem mem_rd (l : List ByteArray) (i : Nat) (h : i < l.length) : rdOf ByteArray.empty l (i : Int) ∈ l := by
 rw [rd_get l i h]
 exact List.getElem_mem h
theorem int_of_nat {i : Int} (h : 0 ≤ i) : ∃ n : Nat, i = (n : Int) := ⟨i.toNat, by omega⟩
def CRLF : List UInt8 := [13, 10]
def linesOf (l : List UInt8) : List (List UInt8) × List UInt8 :=
 if h : 0 ≤ Lib.index l CRLF then
  ((l.take (Lib.index l CRLF).toNat) :: (linesOf (l.drop ((Lib.index l CRLF).toNat + 2))).1, (linesOf (l.drop ((Lib.index l CRLF).toNat + 2))).2)
 else ([], l)
termination_by l.length
decreasing_by
 all_goals
  have := Lib.index_room l CRLF h
  have e : CRLF.length = 2 := rfl
  rw [e] at this
  rw [List.length_drop]
  omega
theorem linesOf_none {l : List UInt8} (h : Lib.index l CRLF < 0) : linesOf l = ([], l) := by
 rw [linesOf, dif_neg (by omega)]
theorem linesOf_some {l : List UInt8} {i : Nat} (h : Lib.index l CRLF = i) : linesOf l = (l.take i :: (linesOf (l.drop (i + 2))).1, (linesOf (l.drop (i + 2))).2) := by
 rw [linesOf, dif_pos (by omega), h, Int.toNat_natCast]
end Go.Proofs.YthkibaldmjfmmaaGreatDoor.Q
namespace Go.Proofs.YthkibaldmjfmmaaGreatDoor.Q
open Go.RowKit Go.Proofs.YthkibaldmjfmmaaGreatDoorW.PrintWords Go.Proofs.YthkibaldmjfmmaaGreatDoorW.PrintLast Go.Proofs.YthkibaldmjfmmaaGreatDoorW.PrintMore
set_option linter.unusedVariables false
set_option linter.unusedSimpArgs false
def chOk (c : UInt8) : Bool := decide (32 ≤ c.toNat) && decide (c.toNat ≤ 126)
def lineOk (s : ByteArray) : Bool := (LL s).all chOk && decide (s.size ≤ 40)
def bodyOk (l : List ByteArray) : Bool := l.all lineOk && decide (l.length ≤ 12)
theorem l2LineOk_loop (s : ByteArray) (hm : s.size ≤ 9223372036854775807) : ∀ d i : Nat, i + d = s.size → Ev (fun k => spec_l2LineOk.l0 k s (i : Int)) (((LL s).drop i).all chOk && decide (s.size ≤ 40)) := by
 intro d
 induction d with
 | zero =>
  intro i hi
  refine Ev.step (fun k => by rw [spec_l2LineOk.l0]) ?_
  refine Ev.neg (by omega) (Ev.k ?_)
  rw [List.drop_of_length_le (by rw [← size_LL]; omega)]
  simp only [List.all_nil, Bool.true_and]
  congr 1
  rw [decide_eq_decide]
  omega
 | succ d ih =>
  intro i hi
  obtain ⟨c, hc, hb⟩ := drop_bt s i (by omega)
  refine Ev.step (fun k => by rw [spec_l2LineOk.l0]) ?_
  refine Ev.pos (by omega) (Ev.pos (by omega) ?_)
  rw [hb, hc, List.all_cons]
  by_cases h1 : (c.toNat : Int) < 32
  ·refine Ev.pos h1 (Ev.k ?_)
   have : chOk c = false := by unfold chOk; simp; omega
   rw [this]; rfl
  ·refine Ev.neg h1 ?_
   by_cases h2 : (c.toNat : Int) > 126
   ·refine Ev.pos h2 (Ev.k ?_)
    have : chOk c = false := by unfold chOk; simp; omega
    rw [this]; rfl
   ·refine Ev.neg h2 ?_
    have : chOk c = true := by unfold chOk; simp; omega
    rw [this, Bool.true_and, wsucc (by omega)]
    exact ih (i + 1) (by omega)
theorem l2LineOk_ev (s : ByteArray) (hm : s.size ≤ 9223372036854775807) : Ev (fun k => spec_l2LineOk.f k s) (lineOk s) := l2LineOk_loop s hm s.size 0 (by omega)
theorem l2BodyOk_loop (l : List ByteArray) (hm : l.length ≤ 9223372036854775807) (hs : ∀ s ∈ l, s.size ≤ 9223372036854775807) : ∀ d i : Nat, i + d = l.length → Ev (fun k => spec_l2BodyOk.l0 k l (i : Int)) ((l.drop i).all lineOk && decide (l.length ≤ 12)) := by
 intro d
 induction d with
 | zero =>
  intro i hi
  refine Ev.step (fun k => by rw [spec_l2BodyOk.l0]) ?_
  refine Ev.neg (by omega) (Ev.k ?_)
  rw [List.drop_of_length_le (by omega)]
  simp only [List.all_nil, Bool.true_and]
  congr 1
  rw [decide_eq_decide]
  omega
 | succ d ih =>
  intro i hi
  refine Ev.step (fun k => by rw [spec_l2BodyOk.l0]) ?_
  refine Ev.pos (by omega) (Ev.pos (by omega) ?_)
  refine Ev.bnd (l2LineOk_ev _ (hs _ (mem_rd l i (by omega)))) ?_
  rw [drop_rd l i (by omega), List.all_cons]
  by_cases h : lineOk (rdOf ByteArray.empty l (i : Int)) = true
  ·refine Ev.pos h ?_
   rw [h, Bool.true_and, wsucc (by omega)]
   exact ih (i + 1) (by omega)
  ·refine Ev.neg h (Ev.k ?_)
   rw [Bool.not_eq_true] at h
   rw [h]; rfl
theorem l2BodyOk_ev (l : List ByteArray) (hm : l.length ≤ 9223372036854775807) (hs : ∀ s ∈ l, s.size ≤ 9223372036854775807) : Ev (fun k => spec_l2BodyOk.f k l) (bodyOk l) := l2BodyOk_loop l hm hs l.length 0 (by omega)
theorem isLine_loop (s : ByteArray) (hm : s.size ≤ 9223372036854775807) : ∀ d i : Nat, i + d = s.size → Ev (fun k => impl_isLine.l0 k s (s.size : Int) (i : Int)) (((LL s).drop i).all chOk && decide (s.size ≤ 40)) := by
 intro d
 induction d with
 | zero =>
  intro i hi
  refine Ev.step (fun k => by rw [impl_isLine.l0]) ?_
  refine Ev.neg (by omega) (Ev.k ?_)
  rw [List.drop_of_length_le (by rw [← size_LL]; omega)]
  simp only [List.all_nil, Bool.true_and]
  congr 1
  rw [decide_eq_decide]
  omega
 | succ d ih =>
  intro i hi
  obtain ⟨c, hc, hb⟩ := drop_bt s i (by omega)
  refine Ev.step (fun k => by rw [impl_isLine.l0]) ?_
  refine Ev.pos (by omega) (Ev.pos (by omega) (Ev.pos (by omega) ?_))
  rw [hb, hc, List.all_cons]
  by_cases h1 : (c.toNat : Int) < 32
  ·refine Ev.pos h1 (Ev.k ?_)
   have : chOk c = false := by unfold chOk; simp; omega
   rw [this]; rfl
  ·refine Ev.neg h1 ?_
   by_cases h2 : (c.toNat : Int) > 126
   ·refine Ev.pos h2 (Ev.k ?_)
    have : chOk c = false := by unfold chOk; simp; omega
    rw [this]; rfl
   ·refine Ev.neg h2 ?_
    have : chOk c = true := by unfold chOk; simp; omega
    rw [this, Bool.true_and, wsucc (by omega)]
    exact ih (i + 1) (by omega)
theorem isLine_ev (s : ByteArray) (hm : s.size ≤ 9223372036854775807) : Ev (fun k => impl_isLine.f k s) (lineOk s) := isLine_loop s hm s.size 0 (by omega)
theorem indexBody_loop (l : List ByteArray) (hm : l.length ≤ 9223372036854775807) (hs : ∀ s ∈ l, s.size ≤ 9223372036854775807) : ∀ d i : Nat, i + d = l.length →
 ∃ r, Ev (fun k => slices_IndexFunc_string_string_at66.l0 k l (l.length : Int) (i : Int)) r ∧ (decide (r ≥ 0) = !(l.drop i).all lineOk) := by
 intro d
 induction d with
 | zero =>
  intro i hi
  refine ⟨-1, ?_, ?_⟩
  ·refine Ev.step (fun k => by rw [slices_IndexFunc_string_string_at66.l0]) ?_
   exact Ev.neg (by omega) (Ev.ret _)
  ·rw [List.drop_of_length_le (by omega)]
   rfl
 | succ d ih =>
  intro i hi
  rw [drop_rd l i (by omega), List.all_cons]
  by_cases h : lineOk (rdOf ByteArray.empty l (i : Int)) = true
  ·obtain ⟨r, hr, hd⟩ := ih (i + 1) (by omega)
   refine ⟨r, ?_, by rw [h, Bool.true_and]; exact hd⟩
   refine Ev.step (fun k => by rw [slices_IndexFunc_string_string_at66.l0]) ?_
   refine Ev.pos (by omega) (Ev.pos (by omega) (Ev.pos (by omega) ?_))
   refine Ev.bnd (a := false) (by unfold impl_isBody_1.f; exact Ev.bnd (isLine_ev _ (hs _ (mem_rd l i (by omega)))) (Ev.k (by rw [h]; rfl))) ?_
   refine Ev.neg (by simp) ?_
   rw [wsucc (by omega)]
   exact hr
  ·rw [Bool.not_eq_true] at h
   refine ⟨(i : Int), ?_, by rw [h]; simp⟩
   refine Ev.step (fun k => by rw [slices_IndexFunc_string_string_at66.l0]) ?_
   refine Ev.pos (by omega) (Ev.pos (by omega) (Ev.pos (by omega) ?_))
   refine Ev.bnd (a := true) (by unfold impl_isBody_1.f; exact Ev.bnd (isLine_ev _ (hs _ (mem_rd l i (by omega)))) (Ev.k (by rw [h]; rfl))) ?_
   exact Ev.pos rfl (Ev.ret _)
theorem isBody_ev (l : List ByteArray) (hm : l.length ≤ 9223372036854775807) (hs : ∀ s ∈ l, s.size ≤ 9223372036854775807) : Ev (fun k => impl_isBody.f k l) (bodyOk l) := by
 unfold impl_isBody.f
 by_cases h : (l.length : Int) ≤ 12
 ·refine Ev.pos h ?_
  obtain ⟨r, hr, hd⟩ := indexBody_loop l hm hs l.length 0 (by omega)
  refine Ev.bnd (a := decide (r ≥ 0)) (by unfold slices_ContainsFunc_string_string_at66.f slices_IndexFunc_string_string_at66.f; exact Ev.bnd hr (Ev.ret _)) (Ev.k ?_)
  rw [hd]
  unfold bodyOk
  have : decide (l.length ≤ 12) = true := by simp; omega
  rw [this]
  simp
 ·refine Ev.neg h (Ev.k ?_)
  unfold bodyOk
  have : decide (l.length ≤ 12) = false := by simp; omega
  rw [this]
  simp
theorem lineOk_size {s : ByteArray} (h : lineOk s = true) : s.size ≤ 40 := by
 unfold lineOk at h
 simp at h
 exact h.2
theorem bodyOk_parts {l : List ByteArray} (h : bodyOk l = true) : l.length ≤ 12 ∧ ∀ s ∈ l, s.size ≤ 40 := by
 unfold bodyOk at h
 simp at h
 exact ⟨h.2, fun s hs => lineOk_size (h.1 s hs)⟩
end Go.Proofs.YthkibaldmjfmmaaGreatDoor.Q
namespace Go.Proofs.YthkibaldmjfmmaaGreatDoor.Q
open Go.RowKit Go.Proofs.YthkibaldmjfmmaaGreatDoorW.PrintWords Go.Proofs.YthkibaldmjfmmaaGreatDoorW.PrintLast Go.Proofs.YthkibaldmjfmmaaGreatDoorW.PrintMore
set_option linter.unusedVariables false
set_option linter.unusedSimpArgs false
theorem occ_iff (l : List UInt8) (j : Nat) : Lib.occAt l CRLF j = true ↔ l[j]? = some 13 ∧ l[j + 1]? = some 10 := by
 unfold Lib.occAt CRLF
 have e0 : l[j]? = (l.drop j)[0]? := by rw [List.getElem?_drop, Nat.add_zero]
 have e1 : l[j + 1]? = (l.drop j)[1]? := by rw [List.getElem?_drop]
 rw [e0, e1]
 generalize l.drop j = t
 match t with
 | [] => simp
 | [a] => simp [List.isPrefixOf]
 | a :: b :: t => simp [List.isPrefixOf]; constructor <;> (rintro ⟨h1, h2⟩; exact ⟨h1.symm, h2.symm⟩)
theorem occ_false (l : List UInt8) (j : Nat) (h : ¬ (l[j]? = some 13 ∧ l[j + 1]? = some 10)) : Lib.occAt l CRLF j = false := by
 rw [← Bool.not_eq_true, occ_iff]
 exact h
theorem occ_drop (l : List UInt8) (a j : Nat) : Lib.occAt (l.drop a) CRLF j = Lib.occAt l CRLF (a + j) := by
 unfold Lib.occAt
 rw [List.drop_drop]
theorem lines_hit (l : List UInt8) (a i : Nat) (hai : a ≤ i) (hno : ∀ j, a ≤ j → j < i → Lib.occAt l CRLF j = false) (hi : Lib.occAt l CRLF i = true) :
 linesOf (l.drop a) = ((l.drop a).take (i - a) :: (linesOf (l.drop (i + 2))).1, (linesOf (l.drop (i + 2))).2) := by
 have hil : i + 1 < l.length := by
  have := (occ_iff l i).1 hi
  exact (List.getElem?_eq_some_iff.1 this.2).1
 have e : Lib.index (l.drop a) CRLF = ((i - a : Nat) : Int) := by
  refine Lib.index_first (by rw [List.length_drop]; omega) ?_ ?_
  ·rw [occ_drop, show a + (i - a) = i by omega]; exact hi
  ·intro j hj
   rw [occ_drop]
   exact hno _ (by omega) (by omega)
 rw [linesOf_some e, List.drop_drop, show a + (i - a + 2) = i + 2 by omega]
end Go.Proofs.YthkibaldmjfmmaaGreatDoor.Q
namespace Go.Proofs.YthkibaldmjfmmaaGreatDoor.Q
open Go.RowKit Go.Proofs.YthkibaldmjfmmaaGreatDoorW.PrintWords Go.Proofs.YthkibaldmjfmmaaGreatDoorW.PrintLast Go.Proofs.YthkibaldmjfmmaaGreatDoorW.PrintMore
set_option linter.unusedVariables false
set_option linter.unusedSimpArgs false
theorem split_loop : ∀ (n : Nat) (s : ByteArray), s.size = n → n ≤ 4294967280 → ∀ out : List ByteArray, out.length + n ≤ 1099511627776 →
 Ev (fun k => impl_split.l0 k s out) (out ++ (linesOf (LL s)).1.map BB, BB (linesOf (LL s)).2) := by
 intro n
 induction n using Nat.strongRecOn with
 | _ n ih =>
  intro s hs hn out ho
  refine Ev.step (fun k => by rw [impl_split.l0]) ?_
  have hcut : strings_Cut.f s ⟨#[13, 10]⟩ = some (⟨(Lib.cut s.data.toList CRLF).1.toArray⟩, ⟨(Lib.cut s.data.toList CRLF).2.1.toArray⟩, (Lib.cut s.data.toList CRLF).2.2) := by
   unfold strings_Cut.f
   rw [if_pos (by omega)]
   rfl
  refine Ev.bnd (Ev.k hcut) ?_
  by_cases h : 0 ≤ Lib.index (LL s) CRLF
  ·obtain ⟨i, hi⟩ := int_of_nat h
   have hroom := Lib.index_room (LL s) CRLF h
   rw [hi, ← size_LL, show CRLF.length = 2 from rfl] at hroom
   have ec : Lib.cut s.data.toList CRLF = ((LL s).take i, (LL s).drop (i + 2), true) := by
    unfold Lib.cut
    rw [if_pos h, hi, Int.toNat_natCast]
    rfl
   rw [ec, linesOf_some hi]
   refine Ev.pos rfl ?_
   refine Ev.pos (by omega) ?_
   have := ih (n - (i + 2)) (by omega) (BB ((LL s).drop (i + 2))) (by rw [size_BB, List.length_drop, ← size_LL]; omega) (by omega) (out ++ [BB ((LL s).take i)]) (by simp; omega)
   rw [LL_BB] at this
   exact Ev.eq this (by simp)
  ·have ec : Lib.cut s.data.toList CRLF = (LL s, [], false) := by
    unfold Lib.cut
    rw [if_neg h]
   rw [ec, linesOf_none (by omega)]
   refine Ev.neg (by simp) (Ev.k ?_)
   rw [BB_LL]
   simp
theorem split_ev (s : ByteArray) (hm : s.size ≤ 4294967280) : Ev (fun k => impl_split.f k s) ((linesOf (LL s)).1.map BB, BB (linesOf (LL s)).2) := by
 have := split_loop s.size s rfl hm [] (by simp; omega)
 unfold impl_split.f
 exact Ev.eq this (by simp)
def dots (ls : List ByteArray) : List UInt8 := dotLines ls ++ [46, 13, 10]
theorem hasPrefix_dot (l : List UInt8) : Lib.hasPrefix l [46] = true ↔ ∃ t, l = 46 :: t := by
 cases l with
 | nil => simp [Lib.hasPrefix]
 | cons c t => simp [Lib.hasPrefix, List.isPrefixOf]; exact eq_comm
theorem dotLine_le (l : List UInt8) : (dotLine l).length ≤ l.length + 3 := by
 unfold dotLine
 split <;> simp <;> omega
theorem dotLines_cons (s : ByteArray) (ls : List ByteArray) : dotLines (s :: ls) = dotLine (LL s) ++ dotLines ls := by
 unfold dotLines
 rw [List.flatMap_cons]
theorem dotLines_bound (ls : List ByteArray) (b : Nat) (h : ∀ s ∈ ls, s.size ≤ b) : (dotLines ls).length ≤ ls.length * (b + 3) := by
 induction ls with
 | nil => simp [dotLines]
 | cons s ls ih =>
  rw [dotLines_cons, List.length_append, List.length_cons, Nat.add_mul, Nat.one_mul]
  have h1 := dotLine_le (LL s)
  have h2 := h s (List.mem_cons_self ..)
  rw [size_LL] at h2
  have h3 := ih (fun t ht => h t (List.mem_cons_of_mem _ ht))
  omega
theorem l2Dots_loop (ls : List ByteArray) (hl : ls.length ≤ 1099511627776) (hb : (dotLines ls).length ≤ 1099511627776) : ∀ d i : Nat, i + d = ls.length → ∀ x : ByteArray, LL x = dotLines (ls.take i) →
 Ev (fun k => spec_l2Dots.l0 k ls x (i : Int)) (BB (dots ls)) := by
 intro d
 induction d with
 | zero =>
  intro i hi x hx
  rw [List.take_of_length_le (by omega)] at hx
  have hxs : x.size ≤ 1099511627776 := by rw [size_LL, hx]; exact hb
  refine Ev.step (fun k => by rw [spec_l2Dots.l0]) ?_
  refine Ev.neg (by omega) ?_
  refine Ev.pos (by omega) ?_
  refine Ev.k ?_
  congr 1
  exact LL_inj (by rw [LL_append, hx, LL_BB]; rfl)
 | succ d ih =>
  intro i hi x hx
  have ht := dotLines_take ls i (by omega)
  have hle := dotLines_le ls (i + 1)
  have hg : ls.getD i ByteArray.empty = rdOf ByteArray.empty ls (i : Int) := by unfold rdOf; rw [Int.toNat_natCast]
  rw [hg] at ht
  rw [ht, List.length_append] at hle
  have hxs : x.size = (dotLines (ls.take i)).length := by rw [size_LL, hx]
  have hd2 : (rdOf ByteArray.empty ls (i : Int)).data.toList.length + 2 ≤ (dotLine (rdOf ByteArray.empty ls (i : Int)).data.toList).length := by
   unfold dotLine
   simp only [List.length_append, List.length_cons, List.length_nil]
   omega
  have hsz : (rdOf ByteArray.empty ls (i : Int)).size = (rdOf ByteArray.empty ls (i : Int)).data.toList.length := size_LL _
  generalize hline : rdOf ByteArray.empty ls (i : Int) = line at *
  refine Ev.step (fun k => by rw [spec_l2Dots.l0]) ?_
  rw [hline]
  refine Ev.pos (by omega) ?_
  refine Ev.pos (by omega) ?_
  rw [wsucc (by omega)]
  by_cases h1 : line.toList = []
  ·refine Ev.pos h1 ?_
   refine Ev.pos (by omega) ?_
   refine Ev.pos (by rw [size_append]; omega) ?_
   refine ih (i + 1) (by omega) _ ?_
   rw [LL_append, LL_append, hx, ht]
   rw [toList_LL] at h1
   have : dotLine line.data.toList = [13, 10] := by
    unfold dotLine
    rw [show line.data.toList = [] from h1]
    rfl
   rw [this, h1, List.append_nil]
  ·refine Ev.neg h1 ?_
   rw [toList_LL] at h1
   have hpos : 0 < line.size := by
    rw [size_LL]
    exact List.length_pos_iff.2 h1
   refine Ev.pos (by omega) ?_
   obtain ⟨c, hc, hcb⟩ := bt_get line 0 hpos
   have hcons : ∃ t, LL line = c :: t := by
    cases hh : LL line with
    | nil => exact absurd hh h1
    | cons a t => rw [hh] at hc; simp at hc; subst hc; exact ⟨t, rfl⟩
   obtain ⟨t, hct⟩ := hcons
   rw [show (0 : Int) = ((0 : Nat) : Int) from rfl, hcb]
   by_cases h2 : (c.toNat : Int) = 46
   ·have e46 : c = 46 := u8_ext (by simp; omega)
    subst e46
    have hp : Lib.hasPrefix line.data.toList [46] = true := (hasPrefix_dot _).2 ⟨t, hct⟩
    have hdl : dotLine line.data.toList = [46] ++ (line.data.toList ++ [13, 10]) := by unfold dotLine; rw [if_pos hp]
    have hlen : (dotLine line.data.toList).length = line.size + 3 := by rw [hdl, hsz]; simp only [List.length_append, List.length_cons, List.length_nil]; omega
    refine Ev.pos h2 ?_
    refine Ev.pos (by omega) ?_
    refine Ev.pos (by rw [size_append, sz1]; omega) ?_
    refine Ev.pos (by rw [size_append, size_append, sz1]; omega) ?_
    refine ih (i + 1) (by omega) _ ?_
    rw [LL_append, LL_append, LL_append, hx, ht, hdl]
    simp only [List.append_assoc]
   ·have hp : ¬ Lib.hasPrefix line.data.toList [46] = true := by
     rw [hasPrefix_dot]
     rintro ⟨t', ht'⟩
     rw [show line.data.toList = c :: t from hct] at ht'
     injection ht' with h3 _
     subst h3
     exact h2 rfl
    have hdl : dotLine line.data.toList = line.data.toList ++ [13, 10] := by unfold dotLine; rw [if_neg hp]; rfl
    refine Ev.neg h2 ?_
    refine Ev.pos (by omega) ?_
    refine Ev.pos (by rw [size_append]; omega) ?_
    refine ih (i + 1) (by omega) _ ?_
    rw [LL_append, LL_append, hx, ht, hdl]
    simp only [List.append_assoc]
theorem l2Dots_ev (ls : List ByteArray) (hl : ls.length ≤ 1099511627776) (hb : (dotLines ls).length ≤ 1099511627776) : Ev (fun k => spec_l2Dots.f k ls) (BB (dots ls)) := by
 unfold spec_l2Dots.f
 exact l2Dots_loop ls hl hb ls.length 0 (by omega) _ rfl
theorem dotted_eq (ls : List ByteArray) (hb : (dotLines ls).length ≤ 1099511627776) : impl_dotted.f ls = some (BB (dots ls)) := by
 unfold impl_dotted.f
 rw [if_pos hb]
 rfl
theorem bodyOk_dots {ls : List ByteArray} (h : bodyOk ls = true) : (dotLines ls).length ≤ 516 := by
 obtain ⟨h1, h2⟩ := bodyOk_parts h
 have := dotLines_bound ls 40 h2
 omega
end Go.Proofs.YthkibaldmjfmmaaGreatDoor.Q
namespace Go.Proofs.YthkibaldmjfmmaaGreatDoor.Q
open Go.RowKit Go.Proofs.YthkibaldmjfmmaaGreatDoorW.PrintWords Go.Proofs.YthkibaldmjfmmaaGreatDoorW.PrintLast Go.Proofs.YthkibaldmjfmmaaGreatDoorW.PrintMore
set_option linter.unusedVariables false
set_option linter.unusedSimpArgs false
theorem litePrefix2_f (a b : ByteArray) : stringslite_HasPrefix.f a b = some (Lib.hasPrefix (LL a) (LL b)) := by
 unfold stringslite_HasPrefix.f
 rw [← Lib.hasPrefix_of_take]
 by_cases h : (a.size : Int) ≥ (b.size : Int)
 ·rw [if_pos h, if_pos (by omega), if_pos (by omega), Int.toNat_natCast, toList_LL, toList_LL, LL_extract]
  have : decide ((LL b).length ≤ (LL a).length) = true := by rw [← size_LL, ← size_LL]; simp; omega
  rw [this, Bool.true_and, List.drop_zero, Nat.sub_zero, size_LL]
 ·rw [if_neg h]
  have : decide ((LL b).length ≤ (LL a).length) = false := by rw [← size_LL, ← size_LL]; simp; omega
  rw [this]
  rfl
theorem trimPrefix_f (a b : ByteArray) : strings_TrimPrefix.f a b = some (BB (Lib.trimPrefix (LL a) (LL b))) := by
 unfold strings_TrimPrefix.f stringslite_TrimPrefix.f
 rw [litePrefix2_f]
 unfold Lib.trimPrefix
 simp only [Option.bind_some]
 by_cases h : Lib.hasPrefix (LL a) (LL b) = true
 ·have hle : b.size ≤ a.size := by
   rw [← Lib.hasPrefix_of_take] at h
   simp only [Bool.and_eq_true, decide_eq_true_eq] at h
   rw [size_LL, size_LL]
   exact h.1
  rw [if_pos h, if_pos h, if_pos (by omega), if_pos (by omega), Int.toNat_natCast, extract_BB, size_LL, size_LL b]
  simp only [Option.bind_some]
  rw [List.take_of_length_le (by rw [List.length_drop]; exact Nat.le_refl _)]
 ·rw [if_neg h, if_neg h, BB_LL]
  rfl
def dotPut (ls : List ByteArray) : ByteArray := if bodyOk ls = true then BB (dots ls) else ⟨#[]⟩
theorem implDotPut_ev (l : List ByteArray) (hm : l.length ≤ 9223372036854775807) (hs : ∀ s ∈ l, s.size ≤ 9223372036854775807) : Ev (fun k => impl_DotPut.f k l) (dotPut l) := by
 unfold impl_DotPut.f dotPut
 refine Ev.bnd (isBody_ev l hm hs) ?_
 by_cases h : bodyOk l = true
 ·have h2 := bodyOk_dots h
  refine Ev.eq (Ev.pos h ?_) (if_pos h).symm
  rw [dotted_eq l (by omega)]
  exact Ev.bnd (Ev.ret _) (Ev.ret _)
 ·exact Ev.eq (Ev.neg h (Ev.ret _)) (if_neg h).symm
def linesB (s : ByteArray) : List ByteArray × ByteArray := if 800 < s.size then ([], ⟨#[]⟩) else ((linesOf (LL s)).1.map BB, BB (linesOf (LL s)).2)
theorem implLinesOf_ev (s : ByteArray) : Ev (fun k => impl_LinesOf.f k s) (linesB s) := by
 unfold impl_LinesOf.f linesB
 by_cases h : 800 < s.size
 ·exact Ev.eq (Ev.pos (by omega) (Ev.ret _)) (if_pos h).symm
 ·exact Ev.eq (Ev.neg (by omega) (Ev.bnd (split_ev s (by omega)) (Ev.ret _))) (if_neg h).symm
theorem linesOf_len (n : Nat) : ∀ l : List UInt8, l.length = n → (linesOf l).1.length ≤ n ∧ ∀ t ∈ (linesOf l).1, t.length ≤ n := by
 induction n using Nat.strongRecOn with
 | _ n ih =>
  intro l hl
  by_cases h : 0 ≤ Lib.index l CRLF
  ·obtain ⟨i, hi⟩ := int_of_nat h
   have hroom := Lib.index_room l CRLF h
   rw [hi, show CRLF.length = 2 from rfl] at hroom
   rw [linesOf_some hi]
   have := ih (n - (i + 2)) (by omega) (l.drop (i + 2)) (by rw [List.length_drop]; omega)
   refine ⟨by simp only [List.length_cons]; omega, fun t ht => ?_⟩
   rcases List.mem_cons.1 ht with rfl | ht
   ·rw [List.length_take]; omega
   ·have := this.2 t ht; omega
  ·rw [linesOf_none (by omega)]
   exact ⟨by simp, by simp⟩
theorem linesB_len (s : ByteArray) : (linesB s).1.length ≤ 800 ∧ ∀ t ∈ (linesB s).1, t.size ≤ 800 := by
 unfold linesB
 split
 ·exact ⟨by simp, by simp⟩
 ·have := linesOf_len _ (LL s) rfl
  rw [← size_LL] at this
  refine ⟨by simp; omega, fun t ht => ?_⟩
  obtain ⟨u, hu, rfl⟩ := List.mem_map.1 ht
  rw [size_BB]
  have := this.2 u hu
  omega
def undot (s : ByteArray) : ByteArray := BB (Lib.trimPrefix (LL s) [46])
def dotGet (s : ByteArray) : List ByteArray × Bool :=
 let body := ((linesB s).1.dropLast).map undot
 if bodyOk body = true ∧ BB (dots body) = s then (body, true) else ([], false)
theorem undot_size (s : ByteArray) : (undot s).size ≤ s.size := by
 unfold undot Lib.trimPrefix
 rw [size_BB]
 split
 ·rw [List.length_drop, size_LL]; omega
 ·rw [size_LL]; exact Nat.le_refl _
theorem dropLast_take {α : Type} (l : List α) : l.dropLast = l.take (l.length - 1) := List.dropLast_eq_take
theorem implDotGet_loop (s : ByteArray) (y : List ByteArray) (hy : y.length ≤ 800) (hys : ∀ t ∈ y, t.size ≤ 800) : ∀ d i : Nat, i + d = y.length → ∀ out : List ByteArray, out = (y.take i).map undot →
 Ev (fun k => impl_DotGet.l0 k s out y (y.length : Int) (i : Int)) (if (dotPut (y.map undot)) = s then (y.map undot, true) else ([], false)) := by
 intro d
 induction d with
 | zero =>
  intro i hi out ho
  rw [List.take_of_length_le (by omega)] at ho
  subst ho
  refine Ev.step (fun k => by rw [impl_DotGet.l0]) ?_
  refine Ev.neg (by omega) ?_
  refine Ev.bnd (implDotPut_ev _ (by simp; omega) (fun t ht => ?_)) ?_
  ·obtain ⟨u, hu, rfl⟩ := List.mem_map.1 ht
   have := hys u hu
   have := undot_size u
   omega
  ·by_cases h : dotPut (y.map undot) = s
   ·rw [if_pos h]
    exact Ev.pos (toList_eq.2 h) (Ev.ret _)
   ·rw [if_neg h]
    exact Ev.neg (fun e => h (toList_eq.1 e)) (Ev.ret _)
 | succ d ih =>
  intro i hi out ho
  refine Ev.step (fun k => by rw [impl_DotGet.l0]) ?_
  refine Ev.pos (by omega) ?_
  refine Ev.pos (by omega) ?_
  refine Ev.pos (by omega) ?_
  refine Ev.bnd (Ev.k (trimPrefix_f _ _)) ?_
  refine Ev.pos (by rw [ho]; simp; omega) ?_
  rw [wsucc (by omega)]
  refine ih (i + 1) (by omega) _ ?_
  rw [ho, List.take_succ_eq_append_getElem (by omega), List.map_append, rd_get y i (by omega)]
  rfl
theorem noLines_dots (ls : List ByteArray) (h : (linesOf (dots ls)).1 = []) : False := by
 by_cases hi : 0 ≤ Lib.index (dots ls) CRLF
 ·obtain ⟨i, hi'⟩ := int_of_nat hi
  rw [linesOf_some hi'] at h
  cases h
 ·have h2 : Lib.index (dots ls) CRLF = -1 := by have := Lib.index_ge (dots ls) CRLF; omega
  rcases Lib.index_spec (dots ls) CRLF with ⟨_, h3⟩ | ⟨i, h3, _⟩
  ·have hlen : (dots ls).length = (dotLines ls).length + 3 := by unfold dots; simp
   have h4 := h3 ((dotLines ls).length + 1) (by omega)
   rw [← Bool.not_eq_true, occ_iff] at h4
   apply h4
   unfold dots
   exact ⟨by rw [List.getElem?_append_right (by omega), show (dotLines ls).length + 1 - (dotLines ls).length = 1 by omega]; rfl, by rw [List.getElem?_append_right (by omega), show (dotLines ls).length + 1 + 1 - (dotLines ls).length = 2 by omega]; rfl⟩
  ·omega
theorem dotGet_empty (s : ByteArray) (h : (linesB s).1 = []) : dotGet s = ([], false) := by
 unfold dotGet
 rw [h]
 simp only [List.dropLast_nil, List.map_nil]
 rw [if_neg]
 rintro ⟨_, h2⟩
 have hd : BB (dots []) = s := h2
 subst hd
 unfold linesB at h
 rw [if_neg (by rw [size_BB]; decide), LL_BB] at h
 simp only [List.map_eq_nil_iff] at h
 exact noLines_dots _ h
theorem dotPut_iff (b : List ByteArray) (s : ByteArray) (hs : s.size ≠ 0) : dotPut b = s ↔ bodyOk b = true ∧ BB (dots b) = s := by
 unfold dotPut
 by_cases h : bodyOk b = true
 ·rw [if_pos h]
  simp [h]
 ·rw [if_neg h]
  exact ⟨fun e => absurd (by rw [← e]; rfl) hs, fun e => absurd e.1 h⟩
theorem linesB_ne {s : ByteArray} (h : (linesB s).1 ≠ []) : s.size ≠ 0 := by
 intro h0
 apply h
 have := size_zero h0
 subst this
 unfold linesB
 rw [if_neg (by decide)]
 rw [linesOf_none (by decide)]
 rfl
theorem implDotGet_ev (s : ByteArray) : Ev (fun k => impl_DotGet.f k s) (dotGet s) := by
 unfold impl_DotGet.f
 refine Ev.bnd (implLinesOf_ev s) ?_
 obtain ⟨hl, hls⟩ := linesB_len s
 by_cases h : (linesB s).1 = []
 ·rw [dotGet_empty s h]
  exact Ev.pos (by rw [h]; rfl) (Ev.ret _)
 ·have hpos : 0 < (linesB s).1.length := List.length_pos_iff.2 h
  refine Ev.neg (by omega) ?_
  have hw : wrap64 (((linesB s).1.length : Int) - 1) = (((linesB s).1.length - 1 : Nat) : Int) := by rw [w64 (by omega) (by omega)]; omega
  rw [hw, Int.toNat_natCast]
  refine Ev.pos (by omega) ?_
  refine Ev.pos (by omega) ?_
  refine Ev.bnd (Ev.ret _) ?_
  have := implDotGet_loop s ((linesB s).1.take ((linesB s).1.length - 1)) (by rw [List.length_take]; omega) (fun t ht => hls t (List.mem_of_mem_take ht)) _ 0 (by simp; rfl) [] (by simp)
  refine Ev.eq this ?_
  unfold dotGet
  rw [← dropLast_take]
  simp only
  by_cases h2 : dotPut (List.map undot (linesB s).1.dropLast) = s
  ·rw [if_pos h2, if_pos ((dotPut_iff _ s (linesB_ne h)).1 h2)]
  ·rw [if_neg h2, if_neg (fun e => h2 ((dotPut_iff _ s (linesB_ne h)).2 e))]
end Go.Proofs.YthkibaldmjfmmaaGreatDoor.Q
namespace Go.Proofs.YthkibaldmjfmmaaGreatDoor.Q
open Go.RowKit Go.Proofs.YthkibaldmjfmmaaGreatDoorW.PrintWords Go.Proofs.YthkibaldmjfmmaaGreatDoorW.PrintLast Go.Proofs.YthkibaldmjfmmaaGreatDoorW.PrintMore
set_option linter.unusedVariables false
set_option linter.unusedSimpArgs false
theorem xor_nonneg (x y : Int) (hx : 0 ≤ x) (hx1 : x < 1125899906842624) (hy : 0 ≤ y) (hy1 : y < 1125899906842624) :
 0 ≤ Go.bits .xor .i64 x y ∧ Go.bits .xor .i64 x y < 1125899906842624 := by
 obtain ⟨a, rfl⟩ := Int.eq_ofNat_of_zero_le hx
 obtain ⟨b, rfl⟩ := Int.eq_ofNat_of_zero_le hy
 have ha : a < 2 ^ 50 := by omega
 have hb : b < 2 ^ 50 := by omega
 have hp : 2 ^ 50 ≤ 2 ^ IntKind.i64.bits := Nat.pow_le_pow_right (by decide) (by decide)
 have ha' : a % 2 ^ IntKind.i64.bits = a := Nat.mod_eq_of_lt (Nat.lt_of_lt_of_le ha hp)
 have hb' : b % 2 ^ IntKind.i64.bits = b := Nat.mod_eq_of_lt (Nat.lt_of_lt_of_le hb hp)
 have hx := Nat.xor_lt_two_pow ha hb
 have e : Go.bits .xor .i64 (a : Int) (b : Int) = ((a ^^^ b : Nat) : Int) := by
  simp only [bits, BitVec.ofInt_natCast, BitVec.toNat_xor, BitVec.toNat_ofNat, ha', hb']
  rw [IntKind.wrap_i64]
  omega
 rw [e]
 omega
theorem rd_byte {b : List Int} (hb : ∀ x ∈ b, 0 ≤ x ∧ x ≤ 255) (i : Int) : 0 ≤ rd b i ∧ rd b i ≤ 255 := by
 unfold rd
 by_cases h : i.toNat < b.length
 ·have := hb _ (List.getElem_mem h)
  simpa [List.getD_eq_getElem?_getD, h] using this
 ·simp [List.getD_eq_getElem?_getD, h]
theorem tm {x n : Int} (hx : 0 ≤ x) (hn : 1 ≤ n) : 0 ≤ Int.tmod x n ∧ Int.tmod x n < n :=
 ⟨Int.tmod_nonneg _ hx, Int.tmod_lt_of_pos _ (by omega)⟩
theorem pick_ok (b : List Int) (hb : ∀ x ∈ b, 0 ≤ x ∧ x ≤ 255) (p n : Int) (k : Nat) (h0 : 0 ≤ p) (h1 : p ≤ 1099511627776) (hn : n ≤ 4294967296) (hl : b.length ≤ 4294967296) :
 ∃ r, spec_l20Rd_pick.f (k + 1) b p n = some (r, p + 1) ∧ 0 ≤ r ∧ (1 ≤ n → r < n) ∧ (n < 1 → r = 0) := by
 unfold spec_l20Rd_pick.f
 have e1 : wrap64 (p + 1) = p + 1 := w64 (by omega) (by omega)
 rw [e1]
 by_cases hn1 : n < 1
 ·rw [if_pos hn1]
  simp only [spec_l20Rd_pick.j0]
  exact ⟨0, by simp, by omega, by omega, fun _ => rfl⟩
 ·rw [if_neg hn1]
  by_cases hb0 : b.length = 0
  ·have : ((b.length : Int) == 0) = true := by simp [hb0]
   rw [this]
   simp only [spec_l20Rd_pick.j0]
   exact ⟨0, by simp, by omega, by omega, fun _ => rfl⟩
  ·have hf : ((b.length : Int) == 0) = false := by simpa using hb0
   rw [hf]
   simp only [spec_l20Rd_pick.j0]
   have e2 : wrap64 (p + 1 - 1) = p := by rw [w64 (by omega) (by omega)]; omega
   simp only [e2]
   rw [if_neg (by simp)]
   by_cases hp : p < (b.length : Int)
   ·rw [if_pos hp, if_pos h0, if_neg (by omega)]
    have hr := rd_byte hb p
    rw [w64 (by omega) (by omega)]
    have ht := tm hr.1 (show 1 ≤ n by omega)
    exact ⟨_, rfl, ht.1, fun _ => ht.2, fun h => absurd h hn1⟩
   ·rw [if_neg hp, if_neg (by omega)]
    have t1 := tm h0 (show (1 : Int) ≤ (b.length : Int) by omega)
    rw [if_pos t1.1, if_pos t1.2]
    have e3 : wrap64 (wrap64 (p * 7) + 3) = p * 7 + 3 := by rw [w64 (x := p * 7) (by omega) (by omega), w64 (by omega) (by omega)]
    rw [e3]
    have t2 := tm (show 0 ≤ p * 7 + 3 by omega) (show (1 : Int) ≤ (b.length : Int) by omega)
    rw [if_pos t2.1, if_pos t2.2, if_neg (by omega)]
    have ra := rd_byte hb (Int.tmod p (b.length : Int))
    have rb := rd_byte hb (Int.tmod (p * 7 + 3) (b.length : Int))
    generalize rd b (Int.tmod p (b.length : Int)) = a at *
    generalize rd b (Int.tmod (p * 7 + 3) (b.length : Int)) = c at *
    have hq0 : 0 ≤ Int.tdiv p (b.length : Int) := Int.tdiv_nonneg h0 (by omega)
    have hq1 : Int.tdiv p (b.length : Int) ≤ p := Int.tdiv_le_self _ h0
    generalize Int.tdiv p (b.length : Int) = q at *
    have e4 : wrap64 (wrap64 (wrap64 (wrap64 (wrap64 a * 131) + wrap64 (wrap64 c * 1117)) + wrap64 (p * 29)) + wrap64 (wrap64 q * 53)) = a * 131 + c * 1117 + p * 29 + q * 53 := by
     rw [w64 (x := a) (by omega) (by omega), w64 (x := c) (by omega) (by omega), w64 (x := q) (by omega) (by omega), w64 (x := a * 131) (by omega) (by omega), w64 (x := c * 1117) (by omega) (by omega), w64 (x := p * 29) (by omega) (by omega), w64 (x := q * 53) (by omega) (by omega), w64 (x := a * 131 + c * 1117) (by omega) (by omega), w64 (x := a * 131 + c * 1117 + p * 29) (by omega) (by omega), w64 (by omega) (by omega)]
    rw [e4]
    have hx0 : 0 ≤ a * 131 + c * 1117 + p * 29 + q * 53 := by omega
    have hx1 : a * 131 + c * 1117 + p * 29 + q * 53 < 1125899906842624 := by omega
    generalize a * 131 + c * 1117 + p * 29 + q * 53 = x at *
    have hd0 : 0 ≤ Int.tdiv x 64 := Int.tdiv_nonneg hx0 (by omega)
    have hd1 : Int.tdiv x 64 ≤ x := Int.tdiv_le_self _ hx0
    rw [w64 (x := Int.tdiv x 64) (by omega) (by omega)]
    have hz := xor_nonneg x (Int.tdiv x 64) hx0 hx1 hd0 (by omega)
    have ht := tm hz.1 (show 1 ≤ n by omega)
    exact ⟨_, rfl, ht.1, fun _ => ht.2, fun h => absurd h hn1⟩
theorem open_ok (l : List Int) (hb : ∀ x ∈ l, (Lit.int .u8 x).wf = true) : ∃ b, spec_l20Open.f l = some (b, 0) ∧ (∀ x ∈ b, 0 ≤ x ∧ x ≤ 255) ∧ b.length ≤ 2000 := by
 have hb' : ∀ x ∈ l, 0 ≤ x ∧ x ≤ 255 := by
  intro x hx
  have := hb x hx
  exact wf_u8 this
 unfold spec_l20Open.f
 by_cases h : (l.length : Int) > 2000
 ·rw [if_pos h, if_pos (by omega)]
  exact ⟨_, rfl, fun x hx => hb' x (List.mem_of_mem_take hx), by rw [List.length_take]; omega⟩
 ·rw [if_neg h]
  exact ⟨_, rfl, hb', by omega⟩
def Buf (b : List Int) : Prop := (∀ x ∈ b, 0 ≤ x ∧ x ≤ 255) ∧ b.length ≤ 2000
theorem pick_same (b : List Int) (p n : Int) (k : Nat) : spec_l20Rd_pick.f (k + 1) b p n = spec_l20Rd_pick.f 1 b p n := rfl
def Dr {α : Type} (n : Int) (p : Int) (f : Nat → Option (α × Int)) (P : α → Prop) : Prop := ∃ v p', Ev f (v, p') ∧ p ≤ p' ∧ p' ≤ p + n ∧ P v
theorem pick_dr {b : List Int} (hb : Buf b) {p : Int} (n : Int) (h0 : 0 ≤ p) (h1 : p ≤ 1000000000) (hn : n ≤ 4294967296) : Dr 1 p (fun k => spec_l20Rd_pick.f k b p n) (fun r => 0 ≤ r ∧ (1 ≤ n → r < n)) := by
 obtain ⟨r, hr, hr0, hr1, _⟩ := pick_ok b hb.1 p n 0 h0 (by omega) hn (by have := hb.2; omega)
 refine ⟨r, p + 1, ⟨1, fun k hk => ?_⟩, by omega, by omega, hr0, hr1⟩
 obtain ⟨m, rfl⟩ : ∃ m, k = m + 1 := ⟨k - 1, by omega⟩
 show spec_l20Rd_pick.f (m + 1) b p n = _
 rw [pick_same]
 exact hr
theorem one_dr {b : List Int} (hb : Buf b) {p : Int} (l : List Int) (hl : l ≠ []) (hm : l.length ≤ 4294967296) (h0 : 0 ≤ p) (h1 : p ≤ 1000000000) : Dr 1 p (fun k => spec_l20Rd_one.f k b p l) (fun r => r ∈ l) := by
 obtain ⟨r, p', hr, hp, hp', hr0, hr1⟩ := pick_dr hb (l.length : Int) h0 h1 (by omega)
 have hpos := List.length_pos_iff.2 hl
 have hr1 := hr1 (by omega)
 refine ⟨rd l r, p', ?_, hp, hp', ?_⟩
 ·unfold spec_l20Rd_one.f
  exact Ev.bnd hr (Ev.pos hr0 (Ev.pos hr1 (Ev.ret _)))
 ·unfold rd
  rw [List.getD_eq_getElem?_getD, List.getElem?_eq_getElem (by omega)]
  exact List.getElem_mem _
theorem of_dr {b : List Int} (hb : Buf b) {p : Int} (l : List ByteArray) (hl : l ≠ []) (hm : l.length ≤ 4294967296) (h0 : 0 ≤ p) (h1 : p ≤ 1000000000) : Dr 1 p (fun k => spec_l20Rd_of.f k b p l) (fun r => r ∈ l) := by
 obtain ⟨r, p', hr, hp, hp', hr0, hr1⟩ := pick_dr hb (l.length : Int) h0 h1 (by omega)
 have hpos := List.length_pos_iff.2 hl
 have hr1 := hr1 (by omega)
 refine ⟨rdOf ByteArray.empty l r, p', ?_, hp, hp', ?_⟩
 ·unfold spec_l20Rd_of.f
  exact Ev.bnd hr (Ev.pos hr0 (Ev.pos hr1 (Ev.ret _)))
 ·unfold rdOf
  rw [List.getD_eq_getElem?_getD, List.getElem?_eq_getElem (by omega)]
  exact List.getElem_mem _
theorem of_all {l : List ByteArray} {P : ByteArray → Prop} (h : ∀ s ∈ l, P s) {n p : Int} {f : Nat → Option (ByteArray × Int)} (d : Dr n p f (fun r => r ∈ l)) : Dr n p f P := by
 obtain ⟨v, p', e, a, c, m⟩ := d
 exact ⟨v, p', e, a, c, h v m⟩
theorem line_dr {b : List Int} (hb : Buf b) {p : Int} (h0 : 0 ≤ p) (h1 : p ≤ 1000000000) : Dr 1 p (fun k => spec_l20Line.f k b p) (fun r => r.size ≤ 40) := by
 unfold spec_l20Line.f
 obtain ⟨v, p', e, a, c, m⟩ := of_all (P := fun s => s.size ≤ 40) (by intro s hs; simp only [List.mem_cons, List.not_mem_nil, or_false] at hs; rcases hs with rfl | rfl | rfl | rfl | rfl | rfl | rfl | rfl | rfl | rfl | rfl | rfl <;> decide) (of_dr hb [(⟨#[104, 101, 108, 108, 111]⟩ : ByteArray), (⟨#[]⟩ : ByteArray), (⟨#[46]⟩ : ByteArray), (⟨#[46, 46]⟩ : ByteArray), (⟨#[46, 100, 111, 116]⟩ : ByteArray), (⟨#[97, 32, 108, 111, 110, 103, 101, 114, 32, 108, 105, 110, 101, 32, 111, 102, 32, 116, 101, 120, 116]⟩ : ByteArray), (⟨#[72, 111, 112, 58, 32, 111, 110, 101, 46, 111, 114, 103]⟩ : ByteArray), (⟨#[72, 111, 112, 58, 32]⟩ : ByteArray), (⟨#[73, 100, 58, 32, 55]⟩ : ByteArray), (⟨#[110, 111, 116, 32, 100, 101, 108, 105, 118, 101, 114, 101, 100, 58]⟩ : ByteArray), (⟨#[60, 97, 64, 111, 110, 101, 46, 111, 114, 103, 62]⟩ : ByteArray), (⟨#[108, 105, 110, 101, 32, 116, 104, 97, 116, 32, 105, 115, 32, 101, 120, 97, 99, 116, 108, 121, 32, 102, 111, 114, 116, 121, 32, 98, 121, 116, 101, 115, 32, 108, 111, 110, 103, 46, 46, 33]⟩ : ByteArray)] (by simp) (by simp) h0 h1)
 exact ⟨v, p', Ev.bnd e (Ev.ret _), a, c, m⟩
theorem body_loop {b : List Int} (hb : Buf b) : ∀ (d : Nat) (p : Int) (x : List ByteArray), 0 ≤ p → p + d ≤ 1000000000 → x.length + d ≤ 1000 → (∀ s ∈ x, s.size ≤ 40) →
 Dr d p (fun k => spec_l20Body.l0 k x (d : Int) b p) (fun r => r.length = x.length + d ∧ ∀ s ∈ r, s.size ≤ 40) := by
 intro d
 induction d with
 | zero =>
  intro p x h0 h1 hx hs
  exact ⟨x, p, Ev.step (fun k => by rw [spec_l20Body.l0]) (Ev.neg (by omega) (Ev.ret _)), by omega, by omega, by omega, hs⟩
 | succ d ih =>
  intro p x h0 h1 hx hs
  obtain ⟨v, p', e, a, c, m⟩ := line_dr hb h0 (show p ≤ 1000000000 by omega)
  obtain ⟨r, q, e2, a2, c2, m2, m3⟩ := ih p' (x ++ [v]) (by omega) (by omega) (by simp; omega) (fun s hs' => by
   rcases List.mem_append.1 hs' with h | h
   ·exact hs s h
   ·rw [List.mem_singleton.1 h]; exact m)
  refine ⟨r, q, ?_, by omega, by omega, by rw [m2]; simp; omega, m3⟩
  refine Ev.step (fun k => by rw [spec_l20Body.l0]) ?_
  refine Ev.pos (by omega) ?_
  refine Ev.bnd e ?_
  refine Ev.pos (by omega) ?_
  rw [show wrap64 (((d + 1 : Nat) : Int) - 1) = (d : Int) by rw [w64 (by omega) (by omega)]; omega]
  exact e2
theorem body_dr {b : List Int} (hb : Buf b) {p : Int} (n : Int) (hn : 0 ≤ n) (hn2 : n ≤ 100) (h0 : 0 ≤ p) (h1 : p ≤ 1000000) : Dr (1 + n) p (fun k => spec_l20Body.f k b p n) (fun r => (r.length : Int) ≤ n ∧ ∀ s ∈ r, s.size ≤ 40) := by
 unfold spec_l20Body.f
 rw [w64 (by omega) (by omega)]
 obtain ⟨v, p', e, a, c, m0, m1⟩ := pick_dr hb (p := p) (n + 1) h0 (by omega) (by omega)
 have m1 := m1 (by omega)
 obtain ⟨d, rfl⟩ := int_of_nat m0
 obtain ⟨r, q, e2, a2, c2, m2, m3⟩ := body_loop hb d p' [] (by omega) (by omega) (by simp; omega) (by simp)
 exact ⟨r, q, Ev.bnd e e2, by omega, by omega, by rw [m2]; simp; omega, m3⟩
theorem anyBody_loop (b : List Int) (p : Int) : ∀ (d : Nat) (x : List ByteArray), x.length + d = 13 → (∀ s ∈ x, s.size ≤ 41) → ∃ r, Ev (fun k => spec_l20AnyBody.l0 k x b p) (r, p) ∧ r.length ≤ 13 ∧ ∀ s ∈ r, s.size ≤ 41 := by
 intro d
 induction d with
 | zero =>
  intro x hx hs
  exact ⟨x, Ev.step (fun k => by rw [spec_l20AnyBody.l0]) (Ev.neg (by omega) (Ev.ret _)), by omega, hs⟩
 | succ d ih =>
  intro x hx hs
  obtain ⟨r, e, h1, h2⟩ := ih (x ++ [⟨#[120]⟩]) (by simp; omega) (fun s hs' => by
   rcases List.mem_append.1 hs' with h | h
   ·exact hs s h
   ·rw [List.mem_singleton.1 h]; decide)
  exact ⟨r, Ev.step (fun k => by rw [spec_l20AnyBody.l0]) (Ev.pos (by omega) (Ev.pos (by omega) e)), h1, h2⟩
theorem anyBody_dr {b : List Int} (hb : Buf b) {p : Int} (h0 : 0 ≤ p) (h1 : p ≤ 100000) : Dr 1000 p (fun k => spec_l20AnyBody.f k b p) (fun r => r.length ≤ 13 ∧ ∀ s ∈ r, s.size ≤ 41) := by
 unfold spec_l20AnyBody.f
 obtain ⟨n, p1, e1, a1, c1, m1⟩ := one_dr hb (p := p) [0, 3, 6, 12] (by simp) (by simp) h0 (by omega)
 have hn : 0 ≤ n ∧ n ≤ 12 := by
  simp only [List.mem_cons, List.not_mem_nil, or_false] at m1
  omega
 obtain ⟨x, p2, e2, a2, c2, m2, m3⟩ := body_dr hb (p := p1) n hn.1 (by omega) (by omega) (by omega)
 obtain ⟨t, p3, e3, a3, c3, m4, m5⟩ := pick_dr hb (p := p2) 14 (by omega) (by omega) (by omega)
 by_cases h : t = 0
 ·obtain ⟨v, p4, e4, a4, c4, m6⟩ := of_all (P := fun s => s.size ≤ 41) (by intro s hs; simp only [List.mem_cons, List.not_mem_nil, or_false] at hs; rcases hs with rfl | rfl | rfl | rfl <;> decide) (of_dr hb (p := p3) [(⟨#[97, 13]⟩ : ByteArray), (⟨#[97, 10, 98]⟩ : ByteArray), (⟨#[127]⟩ : ByteArray), (⟨#[97, 32, 108, 105, 110, 101, 32, 116, 104, 97, 116, 32, 105, 115, 32, 111, 110, 101, 32, 98, 121, 116, 101, 32, 108, 111, 110, 103, 101, 114, 32, 116, 104, 97, 110, 32, 102, 111, 114, 116, 121]⟩ : ByteArray)] (by simp) (by simp) (by omega) (by omega))
  refine ⟨x ++ [v], p4, ?_, by omega, by omega, by simp; omega, fun s hs => ?_⟩
  ·exact Ev.bnd e1 (Ev.bnd e2 (Ev.bnd e3 (Ev.pos h (Ev.bnd e4 (Ev.pos (by show x.length < _; omega) (Ev.ret _))))))
  ·rcases List.mem_append.1 hs with h | h
   ·have := m3 s h; omega
   ·rw [List.mem_singleton.1 h]; exact m6
 ·by_cases h' : t = 1
  ·obtain ⟨r, e4, q1, q2⟩ := anyBody_loop b p3 (13 - x.length) x (by omega) (fun s hs => by have := m3 s hs; omega)
   exact ⟨r, p3, Ev.bnd e1 (Ev.bnd e2 (Ev.bnd e3 (Ev.neg h (Ev.pos h' e4)))), by omega, by omega, q1, q2⟩
  ·exact ⟨x, p3, Ev.bnd e1 (Ev.bnd e2 (Ev.bnd e3 (Ev.neg h (Ev.neg h' (Ev.ret _))))), by omega, by omega, by omega, fun s hs => by have := m3 s hs; omega⟩
end Go.Proofs.YthkibaldmjfmmaaGreatDoor.Q
namespace Go.Proofs.YthkibaldmjfmmaaGreatDoor.Q
open Go.RowKit Go.Proofs.YthkibaldmjfmmaaGreatDoorW.PrintWords Go.Proofs.YthkibaldmjfmmaaGreatDoorW.PrintLast Go.Proofs.YthkibaldmjfmmaaGreatDoorW.PrintMore
set_option linter.unusedVariables false
set_option linter.unusedSimpArgs false
theorem saTexts_loop (a b : List ByteArray) (hl : a.length = b.length) (hm : a.length ≤ 1099511627776) : ∀ d i : Nat, i + d = a.length → Ev (fun k => laws_saTexts.l0 k a b (i : Int)) (decide (a.drop i = b.drop i)) := by
 intro d
 induction d with
 | zero =>
  intro i hi
  refine Ev.step (fun k => by rw [laws_saTexts.l0]) ?_
  refine Ev.neg (by omega) (Ev.eq (Ev.ret _) ?_)
  rw [List.drop_of_length_le (by omega), List.drop_of_length_le (by omega)]
  simp
 | succ d ih =>
  intro i hi
  refine Ev.step (fun k => by rw [laws_saTexts.l0]) ?_
  refine Ev.pos (by omega) (Ev.pos (by omega) (Ev.pos (by omega) ?_))
  rw [wsucc (by omega)]
  have e1 := drop_rd a i (by omega)
  have e2 := drop_rd b i (by omega)
  by_cases h : rdOf ByteArray.empty a (i : Int) = rdOf ByteArray.empty b (i : Int)
  ·refine Ev.pos (toList_eq.2 h) (Ev.eq (ih (i + 1) (by omega)) ?_)
   rw [e1, e2, h]
   simp
  ·refine Ev.neg (fun e => h (toList_eq.1 e)) (Ev.eq (Ev.ret _) ?_)
   rw [e1, e2]
   simp [h]
theorem saTexts_ev (a b : List ByteArray) (hm : a.length ≤ 1099511627776) : Ev (fun k => laws_saTexts.f k a b) (decide (a = b)) := by
 unfold laws_saTexts.f
 by_cases h : a.length = b.length
 ·exact Ev.pos (by omega) (saTexts_loop a b h hm a.length 0 (by omega))
 ·refine Ev.neg (by omega) (Ev.eq (Ev.ret _) ?_)
  symm
  rw [decide_eq_false_iff_not]
  exact fun e => h (by rw [e])
end Go.Proofs.YthkibaldmjfmmaaGreatDoor.Q
namespace Go.Proofs.YthkibaldmjfmmaaGreatDoor.Q
open Go.RowKit Go.Proofs.YthkibaldmjfmmaaGreatDoorW.PrintWords Go.Proofs.YthkibaldmjfmmaaGreatDoorW.PrintLast Go.Proofs.YthkibaldmjfmmaaGreatDoorW.PrintMore
set_option linter.unusedVariables false
set_option linter.unusedSimpArgs false
def dotL (l : List UInt8) : List UInt8 := (if Lib.hasPrefix l [46] = true then [46] else []) ++ l
theorem dotLine_eq (l : List UInt8) : dotLine l = dotL l ++ [13, 10] := by unfold dotLine dotL; rw [List.append_assoc]
theorem dotL_no13 (l : List UInt8) (h : (13 : UInt8) ∉ l) : (13 : UInt8) ∉ dotL l := by
 unfold dotL
 intro e
 rcases List.mem_append.1 e with e | e
 ·split at e
  ·exact absurd (List.mem_singleton.1 e) (by decide)
  ·cases e
 ·exact h e
theorem undot_dotL (s : ByteArray) : undot (BB (dotL (LL s))) = s := by
 unfold undot Lib.trimPrefix
 rw [LL_BB]
 by_cases h : Lib.hasPrefix (LL s) [46] = true
 ·have e : dotL (LL s) = 46 :: LL s := by unfold dotL; rw [if_pos h]; rfl
  rw [e, if_pos ((hasPrefix_dot _).2 ⟨_, rfl⟩)]
  exact BB_LL s
 ·have e : dotL (LL s) = LL s := by unfold dotL; rw [if_neg h]; rfl
  rw [e, if_neg h, BB_LL]
theorem linesOf_line (a rest : List UInt8) (ha : (13 : UInt8) ∉ a) : linesOf (a ++ 13 :: 10 :: rest) = (a :: (linesOf rest).1, (linesOf rest).2) := by
 have := lines_hit (a ++ 13 :: 10 :: rest) 0 a.length (Nat.zero_le _) (fun j _ hj => ?_) ?_
 ·rw [List.drop_zero, Nat.sub_zero, List.take_left, show (a ++ 13 :: 10 :: rest).drop (a.length + 2) = rest by rw [← List.drop_drop, List.drop_left]; rfl] at this
  exact this
 ·refine occ_false _ _ (fun e => ha ?_)
  have := e.1
  rw [List.getElem?_append_left hj] at this
  exact List.mem_of_getElem? this
 ·rw [occ_iff]
  exact ⟨by rw [List.getElem?_append_right (by omega), Nat.sub_self]; rfl, by rw [List.getElem?_append_right (by omega), show a.length + 1 - a.length = 1 by omega]; rfl⟩
theorem linesOf_dots (ls : List ByteArray) (rest : List UInt8) (h : ∀ s ∈ ls, (13 : UInt8) ∉ LL s) : linesOf (dotLines ls ++ rest) = (ls.map (fun s => dotL (LL s)) ++ (linesOf rest).1, (linesOf rest).2) := by
 induction ls with
 | nil => simp [dotLines]
 | cons s ls ih =>
  rw [dotLines_cons, dotLine_eq, List.append_assoc, List.append_assoc, show ([13, 10] : List UInt8) ++ (dotLines ls ++ rest) = 13 :: 10 :: (dotLines ls ++ rest) from rfl,
   linesOf_line _ _ (dotL_no13 _ (h s (List.mem_cons_self ..))), ih (fun t ht => h t (List.mem_cons_of_mem _ ht))]
  rfl
theorem linesOf_empty : linesOf [] = ([], []) := linesOf_none (by decide)
theorem linesOf_end : linesOf [46, 13, 10] = ([[46]], []) := by
 have := linesOf_line [46] [] (by decide)
 rw [linesOf_empty] at this
 exact this
theorem bodyOk_no13 {ls : List ByteArray} (h : bodyOk ls = true) : ∀ s ∈ ls, (13 : UInt8) ∉ LL s := by
 unfold bodyOk lineOk at h
 simp only [Bool.and_eq_true, decide_eq_true_eq, List.all_eq_true] at h
 intro s hs h13
 have := (h.1 s hs).1 13 h13
 exact absurd this (by decide)
theorem lines_dots (ls : List ByteArray) (h : bodyOk ls = true) : linesOf (dots ls) = (ls.map (fun s => dotL (LL s)) ++ [[46]], []) := by
 unfold dots
 rw [linesOf_dots ls _ (bodyOk_no13 h), linesOf_end]
theorem dots_size (ls : List ByteArray) (h : bodyOk ls = true) : (BB (dots ls)).size ≤ 519 := by
 rw [size_BB]
 have := bodyOk_dots h
 unfold dots
 rw [List.length_append, List.length_cons, List.length_cons, List.length_cons, List.length_nil]
 omega
theorem linesB_dots (ls : List ByteArray) (h : bodyOk ls = true) : linesB (BB (dots ls)) = (ls.map (fun s => BB (dotL (LL s))) ++ [⟨#[46]⟩], ⟨#[]⟩) := by
 unfold linesB
 rw [if_neg (by have := dots_size ls h; omega), LL_BB, lines_dots ls h]
 simp only [List.map_append, List.map_map, List.map_cons, List.map_nil]
 rfl
theorem dotGet_dots (ls : List ByteArray) (h : bodyOk ls = true) : dotGet (BB (dots ls)) = (ls, true) := by
 unfold dotGet
 rw [linesB_dots ls h]
 simp only [List.dropLast_concat, List.map_map]
 have : List.map (undot ∘ fun s => BB (dotL (LL s))) ls = ls := by
  conv => rhs; rw [← List.map_id ls]
  refine List.map_congr_left (fun s _ => ?_)
  exact undot_dotL s
 rw [this, if_pos ⟨h, rfl⟩]
end Go.Proofs.YthkibaldmjfmmaaGreatDoor.Q
namespace Go.Proofs.YthkibaldmjfmmaaGreatDoor.Q
open Go.RowKit Go.Proofs.YthkibaldmjfmmaaGreatDoorW.PrintWords Go.Proofs.YthkibaldmjfmmaaGreatDoorW.PrintLast Go.Proofs.YthkibaldmjfmmaaGreatDoorW.PrintMore
set_option linter.unusedVariables false
set_option linter.unusedSimpArgs false
theorem idxC_at {a r : List UInt8} (ha : (13 : UInt8) ∉ a) : Lib.index (a ++ 13 :: 10 :: r) CRLF = (a.length : Int) := by
 refine Lib.index_first (by simp) ?_ (fun j hj => ?_)
 ·rw [occ_iff]
  exact ⟨by rw [List.getElem?_append_right (by omega), Nat.sub_self]; rfl, by rw [List.getElem?_append_right (by omega), show a.length + 1 - a.length = 1 by omega]; rfl⟩
 ·refine occ_false _ _ (fun e => ha ?_)
  have := e.1
  rw [List.getElem?_append_left hj] at this
  exact List.mem_of_getElem? this
theorem idxC_no {a : List UInt8} (ha : (13 : UInt8) ∉ a) : Lib.index a CRLF = -1 :=
 Lib.index_none (fun j _ => occ_false _ _ (fun e => ha (List.mem_of_getElem? e.1)))
def joinL : List (List UInt8) → List UInt8
 | [] => []
 | [h] => h
 | h :: g :: hs => h ++ 13 :: 10 :: joinL (g :: hs)
def joinE (H : List (List UInt8)) : List UInt8 := H.flatMap (fun h => h ++ CRLF)
theorem joinE_cons (h : List UInt8) (H : List (List UInt8)) : joinE (h :: H) = h ++ 13 :: 10 :: joinE H := by
 unfold joinE
 rw [List.flatMap_cons, List.append_assoc]
 rfl
theorem joinE_eq : ∀ H : List (List UInt8), H ≠ [] → joinE H = joinL H ++ [13, 10] := by
 intro H
 induction H with
 | nil => intro h; exact absurd rfl h
 | cons h H ih =>
  intro _
  rw [joinE_cons]
  cases H with
  | nil => rfl
  | cons g hs =>
   rw [ih (by simp), joinL, List.append_assoc]
   rfl
theorem splitJ : ∀ H : List (List UInt8), H ≠ [] → (∀ h ∈ H, (13 : UInt8) ∉ h) → Lib.count (joinL H) CRLF = H.length - 1 ∧ ∀ n, H.length - 1 ≤ n → Lib.splitK CRLF 0 n (joinL H) = H := by
 intro H
 induction H with
 | nil => intro h; exact absurd rfl h
 | cons h H ih =>
  intro _ h13
  have hh := h13 h (List.mem_cons_self ..)
  cases H with
  | nil =>
   refine ⟨Lib.count_miss (idxC_no hh), fun n _ => ?_⟩
   show Lib.splitK CRLF 0 n h = [h]
   cases n with
   | zero => rfl
   | succ n => rw [Lib.splitK, if_pos (beq_iff_eq.2 (idxC_no hh))]
  | cons g hs =>
   obtain ⟨i1, i2⟩ := ih (by simp) (fun x hx => h13 x (List.mem_cons_of_mem _ hx))
   have hd : (h ++ 13 :: 10 :: joinL (g :: hs)).drop (h.length + 2) = joinL (g :: hs) := by rw [← List.drop_drop, List.drop_left]; rfl
   rw [joinL]
   constructor
   ·rw [Lib.count_hit (by simp [CRLF]) (idxC_at hh), show CRLF.length = 2 from rfl, hd, i1]
    simp only [List.length_cons]
    omega
   ·intro n hn
    simp only [List.length_cons] at hn
    obtain ⟨m, rfl⟩ : ∃ m, n = m + 1 := ⟨n - 1, by omega⟩
    rw [Lib.splitK, if_neg (fun e => by have := beq_iff_eq.1 e; rw [idxC_at hh] at this; omega), idxC_at hh, Int.toNat_natCast, Nat.add_zero, List.take_left, show CRLF.length = 2 from rfl, hd, i2 m (by simp only [List.length_cons]; omega)]
theorem splitL_crlf (s : ByteArray) : splitL s ⟨#[13, 10]⟩ = (Lib.splitK CRLF 0 (Lib.count (LL s) CRLF) (LL s)).map BB := by
 have h := Lib.splitB_data ⟨#[13, 10]⟩ 0 (Lib.countB s ⟨#[13, 10]⟩) s
 have e : (splitL s ⟨#[13, 10]⟩).map LL = Lib.splitK CRLF 0 (Lib.count (LL s) CRLF) (LL s) := h
 rw [← e, List.map_map]
 conv => lhs; rw [← List.map_id (splitL s ⟨#[13, 10]⟩)]
 exact List.map_congr_left (fun x _ => (BB_LL x).symm)
def CC : List UInt8 := [13, 10, 13, 10]
theorem occCC (l : List UInt8) (j : Nat) (h : Lib.occAt l CC j = true) : l[j]? = some 13 ∧ l[j + 2]? = some 13 := by
 unfold Lib.occAt at h
 obtain ⟨t, ht⟩ := List.isPrefixOf_iff_prefix.1 h
 have e0 : l[j]? = (l.drop j)[0]? := by rw [List.getElem?_drop, Nat.add_zero]
 have e2 : l[j + 2]? = (l.drop j)[2]? := by rw [List.getElem?_drop]
 rw [e0, e2, ← ht]
 exact ⟨rfl, rfl⟩
theorem join_head (g : List UInt8) (hs : List (List UInt8)) (r : List UInt8) (hg : g ≠ []) : (joinL (g :: hs) ++ r)[0]? = g[0]? := by
 cases g with
 | nil => exact absurd rfl hg
 | cons c g => cases hs <;> rfl
theorem noCC : ∀ H : List (List UInt8), H ≠ [] → (∀ h ∈ H, h ≠ [] ∧ (13 : UInt8) ∉ h) → ∀ (r : List UInt8) (j : Nat), j < (joinL H).length → ¬ ((joinL H ++ 13 :: 10 :: r)[j]? = some 13 ∧ (joinL H ++ 13 :: 10 :: r)[j + 2]? = some 13) := by
 intro H
 induction H with
 | nil => intro h; exact absurd rfl h
 | cons h H ih =>
  intro _ h13 r j hj ⟨q1, q2⟩
  obtain ⟨hn, hh⟩ := h13 h (List.mem_cons_self ..)
  cases H with
  | nil =>
   have hj : j < h.length := hj
   rw [show joinL [h] = h from rfl, List.getElem?_append_left hj] at q1
   exact hh (List.mem_of_getElem? q1)
  | cons g hs =>
   obtain ⟨gn, gg⟩ := h13 g (by simp)
   rw [joinL] at hj q1 q2
   rw [List.append_assoc] at q1 q2
   simp only [List.length_append, List.length_cons] at hj
   by_cases c1 : j < h.length
   ·rw [List.getElem?_append_left c1] at q1
    exact hh (List.mem_of_getElem? q1)
   ·rw [List.getElem?_append_right (by omega)] at q1 q2
    by_cases c2 : j = h.length
    ·subst c2
     rw [show h.length + 2 - h.length = 2 by omega] at q2
     have q3 : (joinL (g :: hs) ++ 13 :: 10 :: r)[0]? = some 13 := q2
     rw [join_head g hs _ gn] at q3
     exact gg (List.mem_of_getElem? q3)
    ·by_cases c3 : j = h.length + 1
     ·subst c3
      rw [show h.length + 1 - h.length = 1 by omega] at q1
      have q3 : (10 : UInt8) = 13 := Option.some.inj q1
      exact absurd q3 (by decide)
     ·obtain ⟨i, rfl⟩ : ∃ i, j = h.length + 2 + i := ⟨j - (h.length + 2), by omega⟩
      rw [show h.length + 2 + i - h.length = i + 2 by omega] at q1
      rw [show h.length + 2 + i + 2 - h.length = i + 2 + 2 by omega] at q2
      exact ih (by simp) (fun x hx => h13 x (List.mem_cons_of_mem _ hx)) r i (by omega) ⟨q1, q2⟩
theorem cutCC (H : List (List UInt8)) (h0 : H ≠ []) (h13 : ∀ h ∈ H, h ≠ [] ∧ (13 : UInt8) ∉ h) (r : List UInt8) : Lib.cut (joinL H ++ 13 :: 10 :: 13 :: 10 :: r) CC = (joinL H, r, true) := by
 have hi : Lib.index (joinL H ++ 13 :: 10 :: 13 :: 10 :: r) CC = ((joinL H).length : Int) := by
  refine Lib.index_first (by simp) ?_ (fun j hj => ?_)
  ·unfold Lib.occAt
   rw [List.drop_left]
   rfl
  ·rw [← Bool.not_eq_true]
   exact fun e => noCC H h0 h13 (13 :: 10 :: r) j hj (occCC _ j e)
 have hd : (joinL H ++ 13 :: 10 :: 13 :: 10 :: r).drop ((joinL H).length + 4) = r := by rw [← List.drop_drop, List.drop_left]; rfl
 unfold Lib.cut
 rw [hi, if_pos (by omega), Int.toNat_natCast, List.take_left, show CC.length = 4 from rfl, hd]
end Go.Proofs.YthkibaldmjfmmaaGreatDoor.Q
namespace Go.Proofs.YthkibaldmjfmmaaGreatDoor.Q
open Go.RowKit Go.Proofs.YthkibaldmjfmmaaGreatDoorW.PrintWords Go.Proofs.YthkibaldmjfmmaaGreatDoorW.PrintLast Go.Proofs.YthkibaldmjfmmaaGreatDoorW.PrintMore
set_option linter.unusedVariables false
set_option linter.unusedSimpArgs false
theorem occ1_iff (l : List UInt8) (c : UInt8) (j : Nat) : Lib.occAt l [c] j = true ↔ l[j]? = some c := by
 unfold Lib.occAt
 have e0 : l[j]? = (l.drop j)[0]? := by rw [List.getElem?_drop, Nat.add_zero]
 rw [e0]
 cases l.drop j with
 | nil => simp [List.isPrefixOf]
 | cons a t => simp [List.isPrefixOf]; exact eq_comm
abbrev cuts (c : UInt8) (n : Nat) (l : List UInt8) : List (List UInt8) := Lib.splitK [c] 0 n l
theorem cuts_at {c : UInt8} {n i : Nat} {l : List UInt8} (h : Lib.index l [c] = (i : Int)) : cuts c (n + 1) l = l.take i :: cuts c n (l.drop (i + 1)) := by
 unfold cuts
 rw [Lib.splitK, if_neg (fun e => by have := beq_iff_eq.1 e; omega), h]
 rfl
theorem cuts_none {c : UInt8} {n : Nat} {l : List UInt8} (h : Lib.index l [c] = -1) : cuts c n l = [l] := by
 unfold cuts
 cases n with
 | zero => rfl
 | succ n => rw [Lib.splitK, if_pos (beq_iff_eq.2 h)]
theorem index1_cases (l : List UInt8) (c : UInt8) : Lib.index l [c] = -1 ∨ ∃ i : Nat, Lib.index l [c] = i ∧ i < l.length := by
 rcases Lib.index_spec l [c] with ⟨h, _⟩ | ⟨i, h, _⟩
 ·exact .inl h
 ·have := Lib.index_room l [c] (by omega)
  simp at this
  exact .inr ⟨i, h, by omega⟩
theorem cuts_hit {c : UInt8} {n i : Nat} {l : List UInt8} (hi : l[i]? = some c) (hno : ∀ j, j < i → l[j]? ≠ some c) : cuts c (n + 1) l = l.take i :: cuts c n (l.drop (i + 1)) := by
 have hil := (List.getElem?_eq_some_iff.1 hi).1
 refine cuts_at (Lib.index_first (by omega) ((occ1_iff l c i).2 hi) (fun j hj => ?_))
 rw [← Bool.not_eq_true, occ1_iff]
 exact hno j hj
theorem cuts_miss {c : UInt8} {n : Nat} {l : List UInt8} (hno : ∀ j : Nat, l[j]? ≠ some c) : cuts c n l = [l] := by
 refine cuts_none ?_
 have : Lib.index l [c] = -1 := Lib.index_none (fun j _ => by rw [← Bool.not_eq_true, occ1_iff]; exact hno j)
 exact this
theorem cuts_len (c : UInt8) : ∀ (n : Nat) (l : List UInt8), (cuts c n l).length = min n (Lib.count l [c]) + 1 := by
 intro n
 induction n with
 | zero => intro l; simp [Lib.splitK]
 | succ n ih =>
  intro l
  rcases index1_cases l c with h | ⟨i, h, _⟩
  ·rw [cuts_none h, Lib.count_miss h]; simp
  ·rw [cuts_at h, List.length_cons, ih, Lib.count_hit (by simp) h]
   simp only [List.length_cons, List.length_nil, Nat.zero_add]
   omega
theorem cuts_more (c : UInt8) : ∀ (n : Nat) (l : List UInt8), Lib.count l [c] ≤ n → cuts c n l = cuts c (Lib.count l [c]) l := by
 intro n
 induction n with
 | zero => intro l h; rw [show Lib.count l [c] = 0 by omega]
 | succ n ih =>
  intro l h
  rcases index1_cases l c with hm | ⟨i, hm, _⟩
  ·rw [cuts_none hm, cuts_none hm]
  ·have e := Lib.count_hit (s := l) (sub := [c]) (by simp) hm
   simp only [List.length_cons, List.length_nil, Nat.zero_add] at e
   rw [cuts_at hm, e, Nat.add_comm 1, cuts_at hm, ih _ (by omega)]
theorem splitL_eq (s : ByteArray) (c : UInt8) : splitL s ⟨#[c]⟩ = (cuts c (Lib.count (LL s) [c]) (LL s)).map BB := by
 have h := Lib.splitB_data ⟨#[c]⟩ 0 (Lib.countB s ⟨#[c]⟩) s
 have e : (splitL s ⟨#[c]⟩).map LL = cuts c (Lib.count (LL s) [c]) (LL s) := h
 rw [← e, List.map_map]
 conv => lhs; rw [← List.map_id (splitL s ⟨#[c]⟩)]
 exact List.map_congr_left (fun x _ => (BB_LL x).symm)
theorem splitL_len (s : ByteArray) (c : UInt8) : (splitL s ⟨#[c]⟩).length ≤ s.size + 1 := by
 unfold splitL
 have h1 := Lib.splitB_length_le ⟨#[c]⟩ 0 (Lib.countB s ⟨#[c]⟩) s
 have h2 := Lib.countB_le ⟨#[c]⟩ (Nat.le_refl 1) s.size s (Nat.le_refl _)
 omega
theorem l1Cut_loop (s : ByteArray) (c : UInt8) (n : Nat) (hn : n ≤ 1000000) (hm : s.size ≤ 1099511627776) : ∀ d i : Nat, i + d = s.size → ∀ (out : List ByteArray) (a m : Nat), a ≤ i → out.length + m = n → (∀ j, a ≤ j → j < i → (LL s)[j]? ≠ some c) →
 Ev (fun k => spec_l1Cut.l0 k s (c.toNat : Int) (n : Int) out (a : Int) (i : Int)) (out ++ (cuts c m ((LL s).drop a)).map BB) := by
 have hsz := size_LL s
 have hlast : ∀ (out : List ByteArray) (a i : Nat), a ≤ s.size → out.length ≤ 1000000 → Ev (fun k => spec_l1Cut.j1 k s (c.toNat : Int) (n : Int) out (a : Int) (i : Int) false) (out ++ [BB ((LL s).drop a)]) := by
  intro out a i ha ho
  refine Ev.step (fun k => by rw [spec_l1Cut.j1]) ?_
  refine Ev.neg (by simp) (Ev.pos (by omega) (Ev.pos (by omega) (Ev.pos (by omega) (Ev.eq (Ev.ret _) ?_))))
  rw [Int.toNat_natCast, extract_BB, List.take_of_length_le (by rw [List.length_drop]; omega)]
 intro d
 induction d with
 | zero =>
  intro i hi out a m hai hom hno
  refine Ev.step (fun k => by rw [spec_l1Cut.l0]) ?_
  refine Ev.neg (by omega) ?_
  rw [cuts_miss (fun j => ?_)]
  ·exact hlast out a i (by omega) (by omega)
  ·rw [List.getElem?_drop]
   by_cases hj : a + j < i
   ·exact hno _ (by omega) hj
   ·rw [List.getElem?_eq_none (by omega)]; simp
 | succ d ih =>
  intro i hi out a m hai hom hno
  refine Ev.step (fun k => by rw [spec_l1Cut.l0]) ?_
  refine Ev.pos (by omega) ?_
  cases m with
  | zero =>
   rw [show (decide ((out.length : Int) < (n : Int))) = false by rw [decide_eq_false_iff_not]; omega]
   exact hlast out a i (by omega) (by omega)
  | succ m =>
   rw [show (decide ((out.length : Int) < (n : Int))) = true by rw [decide_eq_true_eq]; omega]
   refine Ev.step (fun k => by rw [spec_l1Cut.j1]) ?_
   refine Ev.pos rfl (Ev.pos (by omega) (Ev.pos (by omega) ?_))
   obtain ⟨b, hb, hbt⟩ := bt_get s i (by omega)
   rw [hbt, wsucc (by omega)]
   by_cases h : b = c
   ·subst h
    refine Ev.pos rfl (Ev.pos (by omega) (Ev.pos (by omega) (Ev.pos (by omega) (Ev.pos (by omega) ?_))))
    have e := cuts_hit (c := b) (n := m) (i := i - a) (l := (LL s).drop a) (by rw [List.getElem?_drop, show a + (i - a) = i by omega]; exact hb) (fun j hj => by rw [List.getElem?_drop]; exact hno _ (by omega) (by omega))
    rw [e, List.drop_drop, show a + (i - a + 1) = i + 1 by omega]
    refine Ev.eq (ih (i + 1) (by omega) _ (i + 1) m (Nat.le_refl _) (by simp; omega) (fun j h1 h2 => by omega)) ?_
    rw [Int.toNat_natCast, Int.toNat_natCast, extract_BB, List.append_assoc]
    rfl
   ·refine Ev.neg (fun e => h (u8_ext (by omega))) ?_
    refine ih (i + 1) (by omega) out a (m + 1) (by omega) hom (fun j h1 h2 => ?_)
    by_cases hj : j < i
    ·exact hno j h1 hj
    ·rw [show j = i by omega, hb]
     simpa using h
theorem l1Cut_ev (s : ByteArray) (c : UInt8) (n : Nat) (hn : n ≤ 1000000) (hm : s.size ≤ 1099511627776) : Ev (fun k => spec_l1Cut.f k s (c.toNat : Int) (n : Int)) ((cuts c n (LL s)).map BB) := by
 have := l1Cut_loop s c n hn hm s.size 0 (by omega) [] 0 n (Nat.le_refl _) (by simp) (fun j _ h => by omega)
 exact this
def wordCh (b : UInt8) : Bool := decide (97 ≤ b.toNat ∧ b.toNat ≤ 122) || decide (48 ≤ b.toNat ∧ b.toNat ≤ 57)
def wordL (l : List UInt8) : Bool := l.all wordCh && decide (1 ≤ l.length ∧ l.length ≤ 8)
theorem l1In_ev (a b c : Int) : spec_l1In.f a b c = some (decide (b ≤ a ∧ a ≤ c)) := by
 unfold spec_l1In.f
 by_cases h : a ≥ b
 ·rw [if_pos h]
  congr 1
  rw [decide_eq_decide]
  omega
 ·rw [if_neg h]
  congr 1
  symm
  rw [decide_eq_false_iff_not]
  omega
theorem within_ev (a b c : Int) : impl_within.f a b c = some (decide (b ≤ a ∧ a ≤ c)) := l1In_ev a b c
theorem l1Word_loop (s : ByteArray) (hm : s.size ≤ 9223372036854775807) : ∀ d i : Nat, i + d = s.size → Ev (fun k => spec_l1Word.l0 k s (i : Int)) (((LL s).drop i).all wordCh && decide (1 ≤ (LL s).length ∧ (LL s).length ≤ 8)) := by
 have hsz := size_LL s
 intro d
 induction d with
 | zero =>
  intro i hi
  refine Ev.step (fun k => by rw [spec_l1Word.l0]) ?_
  refine Ev.neg (by omega) (Ev.bnd (Ev.k (l1In_ev _ _ _)) (Ev.eq (Ev.ret _) ?_))
  rw [List.drop_of_length_le (by omega), List.all_nil, Bool.true_and, decide_eq_decide]
  omega
 | succ d ih =>
  intro i hi
  obtain ⟨c, hc, hb⟩ := drop_bt s i (by omega)
  have := ih (i + 1) (by omega)
  refine Ev.step (fun k => by rw [spec_l1Word.l0]) ?_
  refine Ev.pos (by omega) (Ev.pos (by omega) ?_)
  rw [hb, hc, List.all_cons, wsucc (by omega)]
  by_cases h : wordCh c = true
  ·rw [h, Bool.true_and]
   unfold wordCh at h
   simp only [Bool.or_eq_true, decide_eq_true_eq] at h
   by_cases h1 : (c.toNat : Int) < 97
   ·exact Ev.pos h1 (Ev.neg (by omega) (Ev.neg (by omega) this))
   ·exact Ev.neg h1 (Ev.neg (by omega) this)
  ·rw [Bool.not_eq_true] at h
   rw [h, Bool.false_and, Bool.false_and]
   unfold wordCh at h
   simp only [Bool.or_eq_false_iff, decide_eq_false_iff_not] at h
   by_cases h1 : (c.toNat : Int) < 97
   ·refine Ev.pos h1 ?_
    by_cases h2 : (c.toNat : Int) < 48
    ·exact Ev.pos h2 (Ev.ret _)
    ·exact Ev.neg h2 (Ev.pos (by omega) (Ev.ret _))
   ·exact Ev.neg h1 (Ev.pos (by omega) (Ev.neg (by omega) (Ev.pos (by omega) (Ev.ret _))))
theorem l1Word_ev (s : ByteArray) (hm : s.size ≤ 9223372036854775807) : Ev (fun k => spec_l1Word.f k s) (wordL (LL s)) := l1Word_loop s hm s.size 0 (by omega)
theorem dropWhile_nil (p : UInt8 → Bool) (l : List UInt8) : l.dropWhile p = [] ↔ ∀ x ∈ l, p x = true := by
 induction l with
 | nil => simp
 | cons a t ih =>
  rw [List.dropWhile_cons]
  by_cases h : p a = true
  ·rw [if_pos h, ih]
   constructor
   ·intro e x hx
    rcases List.mem_cons.1 hx with q | hx
    ·rw [q]; exact h
    ·exact e x hx
   ·intro e x hx
    exact e x (List.mem_cons_of_mem _ hx)
  ·rw [if_neg h]
   constructor
   ·intro e; cases e
   ·intro e; exact absurd (e a (List.mem_cons_self ..)) h
theorem trimS_nil (l cs : List UInt8) : Lib.trimS l cs = [] ↔ l.all (cs.contains ·) = true := by
 unfold Lib.trimS Lib.trimLeftS Lib.trimRightS
 rw [dropWhile_nil]
 constructor
 ·intro h
  have : l.reverse.dropWhile (cs.contains ·) = [] := by
   cases e : l.reverse.dropWhile (cs.contains ·) with
   | nil => rfl
   | cons y t =>
    have h1 := h y (by rw [e]; simp)
    have h2 := List.head_dropWhile_not (p := (cs.contains ·)) (l := l.reverse) (by rw [e]; simp)
    simp only [e, List.head_cons] at h2
    rw [h1] at h2
    cases h2
  rw [dropWhile_nil] at this
  rw [List.all_eq_true]
  exact fun x hx => this x (List.mem_reverse.2 hx)
 ·intro h x hx
  rw [List.all_eq_true] at h
  have : x ∈ l.reverse := (List.dropWhile_sublist _).subset (List.mem_reverse.1 hx)
  exact h x (List.mem_reverse.1 this)
def wordCs : List UInt8 := [97, 98, 99, 100, 101, 102, 103, 104, 105, 106, 107, 108, 109, 110, 111, 112, 113, 114, 115, 116, 117, 118, 119, 120, 121, 122, 48, 49, 50, 51, 52, 53, 54, 55, 56, 57]
theorem wordCs_all : ∀ n : Fin 256, wordCs.contains (UInt8.ofNat n.val) = wordCh (UInt8.ofNat n.val) := by decide +kernel
theorem wordCs_ok (b : UInt8) : wordCs.contains b = wordCh b := by
 have := wordCs_all ⟨b.toNat, b.toNat_lt⟩
 simpa using this
theorem isLabel_f (s : ByteArray) (hm : s.size ≤ 9223372036854775807) : impl_isLabel.f s = some (wordL (LL s)) := by
 have hsz := size_LL s
 unfold impl_isLabel.f wordL
 rw [within_ev]
 simp only [Option.bind_some]
 by_cases h : (1 : Int) ≤ (s.size : Int) ∧ (s.size : Int) ≤ 8
 ·rw [if_pos (by simpa using h)]
  have ht : strings_Trim.f s (⟨#[97, 98, 99, 100, 101, 102, 103, 104, 105, 106, 107, 108, 109, 110, 111, 112, 113, 114, 115, 116, 117, 118, 119, 120, 121, 122, 48, 49, 50, 51, 52, 53, 54, 55, 56, 57]⟩ : ByteArray) = some (BB (Lib.trimS (LL s) wordCs)) := by
   unfold strings_Trim.f
   rw [if_pos ⟨hm, by decide, by decide⟩]
   rfl
  rw [ht]
  simp only [Option.bind_some]
  rw [show decide (1 ≤ (LL s).length ∧ (LL s).length ≤ 8) = true by rw [decide_eq_true_eq]; omega, Bool.and_true]
  congr 1
  rw [Bool.eq_iff_iff, beq_iff_eq, toList_BB]
  have e : BB (Lib.trimS (LL s) wordCs) = BB [] ↔ Lib.trimS (LL s) wordCs = [] := ⟨fun e => by have := congrArg LL e; rw [LL_BB, LL_BB] at this; exact this, fun e => by rw [e]⟩
  rw [e, trimS_nil]
  have : (fun x => wordCs.contains x) = wordCh := funext wordCs_ok
  rw [this]
 ·rw [if_neg (by simpa using h)]
  rw [show decide (1 ≤ (LL s).length ∧ (LL s).length ≤ 8) = false by rw [decide_eq_false_iff_not]; omega, Bool.and_false]
def domL (l : List UInt8) : Bool := (cuts 46 3 l).all wordL && decide ((cuts 46 3 l).length ≤ 3)
theorem domL_all (l : List UInt8) : domL l = ((cuts 46 (Lib.count l [46]) l).all wordL && decide ((cuts 46 (Lib.count l [46]) l).length ≤ 3)) := by
 unfold domL
 by_cases h : Lib.count l [46] ≤ 3
 ·rw [cuts_more 46 3 l h]
 ·have e1 := cuts_len 46 3 l
  have e2 := cuts_len 46 (Lib.count l [46]) l
  rw [show decide ((cuts 46 3 l).length ≤ 3) = false by rw [decide_eq_false_iff_not]; omega, show decide ((cuts 46 (Lib.count l [46]) l).length ≤ 3) = false by rw [decide_eq_false_iff_not]; omega, Bool.and_false, Bool.and_false]
theorem all_drop_rd (x : List ByteArray) (i : Nat) (h : i < x.length) (p : ByteArray → Bool) : (x.drop i).all p = (p (rdOf ByteArray.empty x (i : Int)) && (x.drop (i + 1)).all p) := by rw [drop_rd x i h, List.all_cons]
theorem l1Domain_loop (x : List ByteArray) (hx : x.length ≤ 1000000) (hs : ∀ s ∈ x, s.size ≤ 9223372036854775807) : ∀ d i : Nat, i + d = x.length → Ev (fun k => spec_l1Domain.l0 k x (i : Int)) ((x.drop i).all (fun s => wordL (LL s)) && decide (x.length ≤ 3)) := by
 intro d
 induction d with
 | zero =>
  intro i hi
  refine Ev.step (fun k => by rw [spec_l1Domain.l0]) ?_
  refine Ev.neg (by omega) (Ev.eq (Ev.ret _) ?_)
  rw [List.drop_of_length_le (by omega), List.all_nil, Bool.true_and, decide_eq_decide]
  omega
 | succ d ih =>
  intro i hi
  refine Ev.step (fun k => by rw [spec_l1Domain.l0]) ?_
  refine Ev.pos (by omega) (Ev.pos (by omega) (Ev.bnd (l1Word_ev _ (hs _ (mem_rd x i (by omega)))) ?_))
  rw [all_drop_rd x i (by omega), wsucc (by omega)]
  by_cases h : wordL (LL (rdOf ByteArray.empty x (i : Int))) = true
  ·refine Ev.pos h (Ev.eq (ih (i + 1) (by omega)) ?_)
   rw [h, Bool.true_and]
  ·refine Ev.neg h (Ev.eq (Ev.ret _) ?_)
   rw [Bool.not_eq_true] at h
   rw [h, Bool.false_and, Bool.false_and]
theorem cuts_size (c : UInt8) : ∀ (n : Nat) (l : List UInt8), ∀ p ∈ cuts c n l, p.length ≤ l.length := by
 intro n
 induction n with
 | zero => intro l p hp; rw [List.mem_singleton.1 hp]; exact Nat.le_refl _
 | succ n ih =>
  intro l p hp
  rcases index1_cases l c with h | ⟨i, h, _⟩
  ·rw [cuts_none h] at hp
   rw [List.mem_singleton.1 hp]; exact Nat.le_refl _
  ·rw [cuts_at h] at hp
   rcases List.mem_cons.1 hp with rfl | hp
   ·rw [List.length_take]; omega
   ·have := ih _ p hp
    rw [List.length_drop] at this
    omega
theorem l1Domain_ev (s : ByteArray) (hm : s.size ≤ 1099511627776) : Ev (fun k => spec_l1Domain.f k s) (domL (LL s)) := by
 have hsz := size_LL s
 unfold spec_l1Domain.f
 refine Ev.bnd (l1Cut_ev s 46 3 (by omega) hm) ?_
 have hl := cuts_len 46 3 (LL s)
 have := l1Domain_loop ((cuts 46 3 (LL s)).map BB) (by rw [List.length_map]; omega) (fun t ht => by
  obtain ⟨u, hu, rfl⟩ := List.mem_map.1 ht
  have := cuts_size 46 3 (LL s) u hu
  rw [size_BB]
  omega) _ 0 (by simp; rfl)
 refine Ev.eq this ?_
 unfold domL
 rw [List.drop_zero, List.all_map, List.length_map]
 rfl
theorem implDomainOk_loop (x3 x : List ByteArray) (h3 : x3.length ≤ 1099511627777) (hx : x.length ≤ 1099511627777) (hs : ∀ s ∈ x, s.size ≤ 9223372036854775807) : ∀ d i : Nat, i + d = x.length → Ev (fun k => impl_DomainOk.l0 k x3 x (x.length : Int) (i : Int)) ((x.drop i).all (fun s => wordL (LL s)) && decide (x3.length ≤ 3)) := by
 intro d
 induction d with
 | zero =>
  intro i hi
  refine Ev.step (fun k => by rw [impl_DomainOk.l0]) ?_
  refine Ev.neg (by omega) (Ev.eq (Ev.ret _) ?_)
  rw [List.drop_of_length_le (by omega), List.all_nil, Bool.true_and, decide_eq_decide]
  omega
 | succ d ih =>
  intro i hi
  refine Ev.step (fun k => by rw [impl_DomainOk.l0]) ?_
  refine Ev.pos (by omega) (Ev.pos (by omega) (Ev.pos (by omega) (Ev.bnd (Ev.k (isLabel_f _ (hs _ (mem_rd x i (by omega))))) ?_)))
  rw [all_drop_rd x i (by omega), wsucc (by omega)]
  by_cases h : wordL (LL (rdOf ByteArray.empty x (i : Int))) = true
  ·refine Ev.pos h (Ev.eq (ih (i + 1) (by omega)) ?_)
   rw [h, Bool.true_and]
  ·refine Ev.neg h (Ev.eq (Ev.ret _) ?_)
   rw [Bool.not_eq_true] at h
   rw [h, Bool.false_and, Bool.false_and]
theorem implDomainOk_ev (s : ByteArray) (hm : s.size ≤ 4294967280) : Ev (fun k => impl_DomainOk.f k s) (domL (LL s)) := by
 have hsz := size_LL s
 unfold impl_DomainOk.f
 have hl := splitL_len s 46
 have hf : strings_Split.f s ⟨#[46]⟩ = some (splitL s ⟨#[46]⟩) := by
  unfold strings_Split.f
  rw [if_pos ⟨by omega, by decide, by omega⟩]
 refine Ev.bnd (Ev.k hf) ?_
 have hmem : ∀ t ∈ splitL s ⟨#[46]⟩, t.size ≤ 9223372036854775807 := fun t ht => by
  rw [splitL_eq] at ht
  obtain ⟨u, hu, rfl⟩ := List.mem_map.1 ht
  have := cuts_size 46 _ (LL s) u hu
  rw [size_BB]
  omega
 refine Ev.eq (implDomainOk_loop _ (splitL s ⟨#[46]⟩) (by omega) (by omega) hmem _ 0 (by simp; rfl)) ?_
 rw [domL_all, List.drop_zero, splitL_eq, List.all_map, List.length_map]
 rfl
end Go.Proofs.YthkibaldmjfmmaaGreatDoor.Q
namespace Go.Proofs.YthkibaldmjfmmaaGreatDoor.Q
open Go.RowKit Go.Proofs.YthkibaldmjfmmaaGreatDoorW.PrintWords Go.Proofs.YthkibaldmjfmmaaGreatDoorW.PrintLast Go.Proofs.YthkibaldmjfmmaaGreatDoorW.PrintMore
set_option linter.unusedVariables false
set_option linter.unusedSimpArgs false
def addrL (u d : ByteArray) : Bool := wordL (LL u) && domL (LL d)
theorem l1AddrOk_ev (u d : ByteArray) (hu : u.size ≤ 1099511627776) (hd : d.size ≤ 1099511627776) : Ev (fun k => spec_l1AddrOk.f k u d) (addrL u d) := by
 unfold spec_l1AddrOk.f addrL
 refine Ev.bnd (l1Word_ev u (by omega)) ?_
 by_cases h : wordL (LL u) = true
 ·refine Ev.pos h (Ev.bnd (l1Domain_ev d hd) (Ev.eq (Ev.ret _) ?_))
  rw [h, Bool.true_and]
 ·refine Ev.neg h (Ev.eq (Ev.ret _) ?_)
  rw [Bool.not_eq_true] at h
  rw [h, Bool.false_and]
theorem implAddrOk_ev (u d : ByteArray) (hu : u.size ≤ 4294967280) (hd : d.size ≤ 4294967280) : Ev (fun k => impl_AddrOk.f k u d) (addrL u d) := by
 unfold impl_AddrOk.f addrL
 refine Ev.bnd (Ev.k (isLabel_f u (by omega))) ?_
 by_cases h : wordL (LL u) = true
 ·refine Ev.pos h (Ev.bnd (implDomainOk_ev d hd) (Ev.eq (Ev.ret _) ?_))
  rw [h, Bool.true_and]
 ·refine Ev.neg h (Ev.eq (Ev.ret _) ?_)
  rw [Bool.not_eq_true] at h
  rw [h, Bool.false_and]
theorem toList_nil (s : ByteArray) : (s.toList == ([] : List UInt8)) = decide (s = ⟨#[]⟩) := by
 rw [Bool.eq_iff_iff, beq_iff_eq, decide_eq_true_eq, toList_BB]
def nullA (u d : ByteArray) : Bool := decide (u = ⟨#[]⟩) && decide (d = ⟨#[]⟩)
theorem null_f (u d : ByteArray) : impl_Addr_null.f u d = some (nullA u d) := by
 unfold impl_Addr_null.f nullA
 rw [toList_nil, toList_nil]
theorem l1Null_f (u d : ByteArray) : spec_l1Null.f u d = some (nullA u d) := by
 unfold spec_l1Null.f nullA
 by_cases h : u = ⟨#[]⟩
 ·rw [if_pos (toList_BB.2 h), toList_nil, h]
  simp
 ·rw [if_neg (fun e => h (toList_BB.1 e))]
  simp [h]
def textL (u d : List UInt8) : List UInt8 := 60 :: (u ++ 64 :: (d ++ [62]))
def textA (u d : ByteArray) : ByteArray := if nullA u d = true then ⟨#[60, 62]⟩ else BB (textL (LL u) (LL d))
theorem text_cat (u d : ByteArray) : ((((⟨#[60]⟩ : ByteArray) ++ u) ++ (⟨#[64]⟩ : ByteArray)) ++ d) ++ (⟨#[62]⟩ : ByteArray) = BB (textL (LL u) (LL d)) := by
 apply LL_inj
 rw [LL_append, LL_append, LL_append, LL_append]
 unfold textL
 rw [LL_BB, List.append_assoc, List.append_assoc, List.append_assoc]
 rfl
theorem l1Put_f (u d : ByteArray) (hu : u.size ≤ 1099511627776) (hd : d.size ≤ 1099511627776) : spec_l1Put.f u d = some (textA u d) := by
 unfold spec_l1Put.f textA
 rw [l1Null_f]
 simp only [Option.bind_some]
 have s1 : (⟨#[60]⟩ : ByteArray).size = 1 := rfl
 have s2 : (⟨#[64]⟩ : ByteArray).size = 1 := rfl
 by_cases h : nullA u d = true
 ·rw [if_pos h, if_pos h]
 ·rw [if_neg h, if_neg h, if_pos (by omega), if_pos (by rw [size_append]; omega), if_pos (by rw [size_append, size_append]; omega), if_pos (by rw [size_append, size_append, size_append]; omega), text_cat]
theorem text_f (u d : ByteArray) (hu : u.size ≤ 1099511627776) (hd : d.size ≤ 1099511627776) : impl_Addr_text.f u d = some (textA u d) := by
 unfold impl_Addr_text.f textA
 rw [null_f]
 simp only [Option.bind_some]
 have s1 : (⟨#[60]⟩ : ByteArray).size = 1 := rfl
 have s2 : (⟨#[64]⟩ : ByteArray).size = 1 := rfl
 by_cases h : nullA u d = true
 ·rw [if_pos h, if_pos h]
 ·rw [if_neg h, if_neg h, if_pos (by omega), if_pos (by rw [size_append]; omega), if_pos (by rw [size_append, size_append]; omega), if_pos (by rw [size_append, size_append, size_append]; omega), text_cat]
def senderA (u d : ByteArray) : Bool := nullA u d || addrL u d
theorem sender_ev (u d : ByteArray) (hu : u.size ≤ 4294967280) (hd : d.size ≤ 4294967280) : Ev (fun k => impl_Addr_sender.f k u d) (senderA u d) := by
 unfold impl_Addr_sender.f senderA
 refine Ev.bnd (Ev.k (null_f u d)) ?_
 by_cases h : nullA u d = true
 ·refine Ev.pos h (Ev.eq (Ev.ret _) ?_)
  rw [h, Bool.true_or]
 ·refine Ev.neg h (Ev.bnd (implAddrOk_ev u d hu hd) (Ev.eq (Ev.ret _) ?_))
  rw [Bool.not_eq_true] at h
  rw [h, Bool.false_or]
theorem cuts_mem (c : UInt8) : ∀ (n : Nat) (l : List UInt8) (b : UInt8), b ∈ l → b = c ∨ ∃ p ∈ cuts c n l, b ∈ p := by
 intro n
 induction n with
 | zero => intro l b hb; exact .inr ⟨l, List.mem_singleton.2 rfl, hb⟩
 | succ n ih =>
  intro l b hb
  rcases Lib.index_spec l [c] with ⟨h, _⟩ | ⟨i, h, _, hocc, _⟩
  ·rw [cuts_none h]
   exact .inr ⟨l, List.mem_singleton.2 rfl, hb⟩
  ·rw [cuts_at h]
   have hi := (occ1_iff l c i).1 hocc
   obtain ⟨h1, h2⟩ := List.getElem?_eq_some_iff.1 hi
   rw [← List.take_append_drop i l, List.drop_eq_getElem_cons h1, h2] at hb
   rcases List.mem_append.1 hb with hb | hb
   ·exact .inr ⟨_, List.mem_cons_self .., hb⟩
   ·rcases List.mem_cons.1 hb with hb | hb
    ·exact .inl hb
    ·rcases ih _ b hb with e | ⟨p, hp, hbp⟩
     ·exact .inl e
     ·exact .inr ⟨p, List.mem_cons_of_mem _ hp, hbp⟩
theorem wordL_mem {l : List UInt8} (h : wordL l = true) {b : UInt8} (hb : b ∈ l) : wordCh b = true := by
 unfold wordL at h
 rw [Bool.and_eq_true, List.all_eq_true] at h
 exact h.1 b hb
theorem domL_mem {l : List UInt8} (h : domL l = true) {b : UInt8} (hb : b ∈ l) : wordCh b = true ∨ b = 46 := by
 unfold domL at h
 rw [Bool.and_eq_true, List.all_eq_true] at h
 rcases cuts_mem 46 3 l b hb with e | ⟨p, hp, hbp⟩
 ·exact .inr e
 ·exact .inl (wordL_mem (h.1 p hp) hbp)
theorem addrL_no {u d : ByteArray} (h : addrL u d = true) (c : UInt8) (hc : wordCh c = false) (hc2 : c ≠ 46) : c ∉ LL u ∧ c ∉ LL d := by
 unfold addrL at h
 rw [Bool.and_eq_true] at h
 refine ⟨fun e => ?_, fun e => ?_⟩
 ·rw [wordL_mem h.1 e] at hc; cases hc
 ·rcases domL_mem h.2 e with q | q
  ·rw [q] at hc; cases hc
  ·exact hc2 q
theorem addrL_not_null {u d : ByteArray} (h : addrL u d = true) : nullA u d = false := by
 cases e : nullA u d with
 | false => rfl
 | true =>
  unfold nullA at e
  simp only [Bool.and_eq_true, decide_eq_true_eq] at e
  obtain ⟨rfl, rfl⟩ := e
  exact absurd h (by decide)
theorem first_unique (c : UInt8) : ∀ (a a' b b' : List UInt8), c ∉ a → c ∉ a' → a ++ c :: b = a' ++ c :: b' → a = a' ∧ b = b'
 | [], [], b, b', _, _, h => ⟨rfl, (List.cons.inj h).2⟩
 | [], y :: a', b, b', _, h2, h => absurd (List.cons.inj h).1 (fun e => h2 (by rw [e]; exact List.mem_cons_self ..))
 | x :: a, [], b, b', h1, _, h => absurd (List.cons.inj h).1 (fun e => h1 (by rw [← e]; exact List.mem_cons_self ..))
 | x :: a, y :: a', b, b', h1, h2, h => by
  obtain ⟨e1, e2⟩ := List.cons.inj h
  obtain ⟨e3, e4⟩ := first_unique c a a' b b' (fun e => h1 (List.mem_cons_of_mem _ e)) (fun e => h2 (List.mem_cons_of_mem _ e)) e2
  exact ⟨by rw [e1, e3], e4⟩
theorem textA_addr {u d : ByteArray} (h : addrL u d = true) : textA u d = BB (textL (LL u) (LL d)) := by
 unfold textA
 rw [addrL_not_null h]
 rfl
theorem nullA_eq {u d : ByteArray} (h : nullA u d = true) : u = ⟨#[]⟩ ∧ d = ⟨#[]⟩ := by
 unfold nullA at h
 simpa only [Bool.and_eq_true, decide_eq_true_eq] using h
theorem textA_null : textA ⟨#[]⟩ ⟨#[]⟩ = ⟨#[60, 62]⟩ := rfl
theorem text_ne {u d : ByteArray} (h : addrL u d = true) : textA u d ≠ ⟨#[60, 62]⟩ := by
 rw [textA_addr h]
 intro e
 have e := congrArg LL e
 rw [LL_BB] at e
 have : (64 : UInt8) ∈ textL (LL u) (LL d) := by unfold textL; simp
 rw [e] at this
 exact absurd this (by decide)
theorem text_inj {u d u' d' : ByteArray} (h : senderA u d = true) (h' : senderA u' d' = true) (e : textA u d = textA u' d') : u = u' ∧ d = d' := by
 unfold senderA at h h'
 rw [Bool.or_eq_true] at h h'
 rcases h with h | h
 ·obtain ⟨rfl, rfl⟩ := nullA_eq h
  rcases h' with h' | h'
  ·obtain ⟨rfl, rfl⟩ := nullA_eq h'
   exact ⟨rfl, rfl⟩
  ·rw [textA_null] at e
   exact absurd e.symm (text_ne h')
 ·rcases h' with h' | h'
  ·obtain ⟨rfl, rfl⟩ := nullA_eq h'
   rw [textA_null] at e
   exact absurd e (text_ne h)
  ·rw [textA_addr h, textA_addr h'] at e
   have e := congrArg LL e
   rw [LL_BB, LL_BB] at e
   unfold textL at e
   obtain ⟨e1, e2⟩ := first_unique 64 _ _ _ _ (addrL_no h 64 (by decide) (by decide)).1 (addrL_no h' 64 (by decide) (by decide)).1 (List.cons.inj e).2
   exact ⟨LL_inj e1, LL_inj (List.append_cancel_right e2)⟩
end Go.Proofs.YthkibaldmjfmmaaGreatDoor.Q
namespace Go.Proofs.YthkibaldmjfmmaaGreatDoor.Q
open Go.RowKit Go.Proofs.YthkibaldmjfmmaaGreatDoorW.PrintWords Go.Proofs.YthkibaldmjfmmaaGreatDoorW.PrintLast Go.Proofs.YthkibaldmjfmmaaGreatDoorW.PrintMore
set_option linter.unusedVariables false
set_option linter.unusedSimpArgs false
abbrev IA := S24
section
variable {f g : Nat → Option Bool} {a b : Bool}
theorem Ev.and (hf : Ev f a) (hg : Ev g b) : Ev (fun k => (f k).bind fun t => if t = true then g k else some false) (a && b) := by
 cases a with
 | true => exact Ev.bnd hf (Ev.pos rfl (Ev.eq hg (Bool.true_and b).symm))
 | false => exact Ev.bnd hf (Ev.neg (by simp) (Ev.eq (Ev.ret _) (Bool.false_and b).symm))
theorem Ev.fwd (hg : Ev g b) : Ev (fun k => (g k).bind fun t => some t) b := Ev.bnd hg (Ev.ret _)
end
theorem rdIA (l : List IA) (i : Nat) (h : i < l.length) : rd_T24 l (i : Int) = l[i] := dRd l i h
def addrA (x : IA) : Bool := addrL x.f0 x.f1
def inB (a b c : Int) : Bool := decide (b ≤ a ∧ a ≤ c)
def restM (u d : ByteArray) (n : Nat) (body : List ByteArray) : Bool := senderA u d && (inB n 1 4 && bodyOk body)
def mailL (u d : ByteArray) (tos : List IA) (body : List ByteArray) : Bool := (tos.all addrA && decide (pairsA tos).Nodup) && restM u d tos.length body
def MailB (u d : ByteArray) (tos : List IA) (body : List ByteArray) : Prop := u.size ≤ 1048576 ∧ d.size ≤ 1048576 ∧ (tos.length ≤ 1048576 ∧ ∀ x ∈ tos, x.f0.size ≤ 1048576 ∧ x.f1.size ≤ 1048576) ∧ body.length ≤ 1048576 ∧ ∀ s ∈ body, s.size ≤ 1048576
theorem pair_eq (x y : IA) : (x.f0.toList == y.f0.toList && (x.f1.toList == y.f1.toList)) = true ↔ (x.f0, x.f1) = (y.f0, y.f1) := by
 rw [toList_beq, toList_beq, Bool.and_eq_true, decide_eq_true_eq, decide_eq_true_eq, Prod.mk.injEq]
theorem pairsA_get (tos : List IA) (i : Nat) (h : i < tos.length) : (pairsA tos).drop i = (tos[i].f0, tos[i].f1) :: (pairsA tos).drop (i + 1) := by
 unfold pairsA
 rw [List.drop_eq_getElem_cons (by rw [List.length_map]; exact h), List.getElem_map]
theorem pairsA_len (tos : List IA) : (pairsA tos).length = tos.length := by unfold pairsA; rw [List.length_map]
section
variable {u d : ByteArray} {tos : List IA} {body : List ByteArray} (hB : MailB u d tos body)
include hB
theorem l2Ok_hit (i : Nat) (hi : i < tos.length) : ∀ m j : Nat, j + m = i → (tos[i].f0, tos[i].f1) ∈ ((pairsA tos).drop j).take m → Ev (fun k => spec_l2Ok.l1 k (i : Int) (j : Int) u d tos body) false := by
 have hl := hB.2.2.1.1
 intro m
 induction m with
 | zero => intro j hj hc; rw [List.take_zero] at hc; cases hc
 | succ m ih =>
  intro j hj hc
  have hjl : j < tos.length := by omega
  refine Ev.step (fun k => by rw [spec_l2Ok.l1]) (Ev.pos (by omega) (Ev.pos (by omega) (Ev.pos (by omega) (Ev.pos (by omega) (Ev.pos (by omega) ?_)))))
  rw [pairsA_get tos j hjl, List.take_succ_cons] at hc
  rw [rdIA tos j hjl, rdIA tos i hi, wsucc (by omega)]
  by_cases h : (tos[j].f0, tos[j].f1) = (tos[i].f0, tos[i].f1)
  ·exact Ev.pos ((pair_eq _ _).2 h) (Ev.ret _)
  ·refine Ev.neg (fun q => h ((pair_eq _ _).1 q)) (ih (j + 1) (by omega) ?_)
   rcases List.mem_cons.1 hc with e | e
   ·exact absurd e.symm h
   ·exact e
theorem l2Ok_miss (i : Nat) (hi : i < tos.length) (r : Bool) (hr : Ev (fun k => spec_l2Ok.l0 k ((i + 1 : Nat) : Int) u d tos body) r) : ∀ m j : Nat, j + m = i → (tos[i].f0, tos[i].f1) ∉ ((pairsA tos).drop j).take m →
 Ev (fun k => spec_l2Ok.l1 k (i : Int) (j : Int) u d tos body) r := by
 have hl := hB.2.2.1.1
 intro m
 induction m with
 | zero =>
  intro j hj _
  refine Ev.step (fun k => by rw [spec_l2Ok.l1]) (Ev.neg (by omega) ?_)
  rw [wsucc (by omega)]
  exact hr
 | succ m ih =>
  intro j hj hc
  have hjl : j < tos.length := by omega
  refine Ev.step (fun k => by rw [spec_l2Ok.l1]) (Ev.pos (by omega) (Ev.pos (by omega) (Ev.pos (by omega) (Ev.pos (by omega) (Ev.pos (by omega) ?_)))))
  rw [pairsA_get tos j hjl, List.take_succ_cons] at hc
  rw [rdIA tos j hjl, rdIA tos i hi, wsucc (by omega)]
  exact Ev.neg (fun q => hc (by rw [(pair_eq _ _).1 q]; exact List.mem_cons_self ..)) (ih (j + 1) (by omega) (fun q => hc (List.mem_cons_of_mem _ q)))
theorem l2Ok_l0 : ∀ m i : Nat, i + m = tos.length → ((pairsA tos).take i).Nodup → Ev (fun k => spec_l2Ok.l0 k (i : Int) u d tos body) (((tos.drop i).all addrA && decide (pairsA tos).Nodup) && restM u d tos.length body) := by
 obtain ⟨h0, h1, ⟨h2, h3⟩, h4, h5⟩ := hB
 have hB : MailB u d tos body := ⟨h0, h1, ⟨h2, h3⟩, h4, h5⟩
 intro m
 induction m with
 | zero =>
  intro i hi hn
  rw [List.take_of_length_le (by rw [pairsA_len]; omega)] at hn
  rw [List.drop_of_length_le (by omega), List.all_nil, Bool.true_and, decide_eq_true hn, Bool.true_and]
  refine Ev.step (fun k => by rw [spec_l2Ok.l0]) (Ev.neg (by omega) (Ev.bnd (l1AddrOk_ev u d (by omega) (by omega)) ?_))
  have hin : Ev (fun k => (spec_l1In.f (tos.length : Int) 1 4).bind fun t => if t = true then ((spec_l2BodyOk.f k body).bind fun t => some t) else some false) (inB tos.length 1 4 && bodyOk body) :=
   Ev.and (Ev.k (l1In_ev _ _ _)) (Ev.fwd (l2BodyOk_ev body (by omega) (fun s hs => by have := h5 s hs; omega)))
  unfold restM senderA
  by_cases ha : addrL u d = true
  ·exact Ev.pos ha (Ev.eq hin (by rw [ha, Bool.or_true, Bool.true_and]))
  ·rw [Bool.not_eq_true] at ha
   refine Ev.neg (by rw [ha]; simp) (Ev.eq (Ev.and (Ev.k (l1Null_f u d)) hin) ?_)
   rw [ha, Bool.or_false]
 | succ m ih =>
  intro i hi hn
  have hil : i < tos.length := by omega
  obtain ⟨z0, z1⟩ := h3 _ (List.getElem_mem hil)
  refine Ev.step (fun k => by rw [spec_l2Ok.l0]) (Ev.pos (by omega) (Ev.pos (by omega) ?_))
  rw [rdIA tos i hil, List.drop_eq_getElem_cons hil, List.all_cons]
  refine Ev.bnd (l1AddrOk_ev _ _ (by omega) (by omega)) ?_
  have e : addrA tos[i] = addrL tos[i].f0 tos[i].f1 := rfl
  rw [e]
  by_cases ha : addrL tos[i].f0 tos[i].f1 = true
  ·rw [ha, Bool.true_and]
   refine Ev.pos rfl ?_
   have ht : (pairsA tos).take (i + 1) = (pairsA tos).take i ++ [(tos[i].f0, tos[i].f1)] := by
    rw [List.take_succ_eq_append_getElem (by rw [pairsA_len]; exact hil)]
    unfold pairsA
    rw [List.getElem_map]
   by_cases hc : (tos[i].f0, tos[i].f1) ∈ (pairsA tos).take i
   ·have hno : ¬ (pairsA tos).Nodup := fun q => by
     have q2 : ((pairsA tos).take (i + 1)).Nodup := q.sublist (List.take_sublist _ _)
     rw [ht, List.nodup_append] at q2
     exact q2.2.2 _ hc _ (List.mem_singleton.2 rfl) rfl
    refine Ev.eq (l2Ok_hit hB i hil i 0 (by omega) (by rw [List.drop_zero]; exact hc)) ?_
    rw [decide_eq_false hno, Bool.and_false, Bool.false_and]
   ·have hn2 : ((pairsA tos).take (i + 1)).Nodup := by
     rw [ht, List.nodup_append]
     refine ⟨hn, by simp, fun a ha b hb => ?_⟩
     rw [List.mem_singleton.1 hb]
     rintro rfl
     exact hc ha
    exact l2Ok_miss hB i hil _ (ih (i + 1) (by omega) hn2) i 0 (by omega) (by rw [List.drop_zero]; exact hc)
  ·rw [Bool.not_eq_true] at ha
   rw [ha, Bool.false_and, Bool.false_and, Bool.false_and]
   exact Ev.neg (by simp) (Ev.ret _)
theorem l2Ok_ev : Ev (fun k => spec_l2Ok.f k u d tos body) (mailL u d tos body) := by
 have := l2Ok_l0 hB tos.length 0 (by omega) (by simp)
 rw [List.drop_zero] at this
 exact this
theorem addrIndex_loop : ∀ m i : Nat, i + m = tos.length → ∃ r, Ev (fun k => slices_IndexFunc_impl_Addr_impl_Addr_at24.l0 k tos (tos.length : Int) (i : Int)) r ∧ (decide (r ≥ 0) = !(tos.drop i).all addrA) := by
 obtain ⟨h0, h1, ⟨h2, h3⟩, h4, h5⟩ := hB
 intro m
 induction m with
 | zero =>
  intro i hi
  refine ⟨-1, Ev.step (fun k => by rw [slices_IndexFunc_impl_Addr_impl_Addr_at24.l0]) (Ev.neg (by omega) (Ev.ret _)), ?_⟩
  rw [List.drop_of_length_le (by omega)]
  rfl
 | succ m ih =>
  intro i hi
  have hil : i < tos.length := by omega
  obtain ⟨z0, z1⟩ := h3 _ (List.getElem_mem hil)
  have hc : Ev (fun k => impl_MailOk_1.f k tos[i].f0 tos[i].f1) (!addrA tos[i]) := Ev.bnd (implAddrOk_ev _ _ (by omega) (by omega)) (Ev.ret _)
  rw [List.drop_eq_getElem_cons hil, List.all_cons]
  by_cases h : addrA tos[i] = true
  ·obtain ⟨r, hr, hd⟩ := ih (i + 1) (by omega)
   rw [h] at hc
   refine ⟨r, Ev.step (fun k => by rw [slices_IndexFunc_impl_Addr_impl_Addr_at24.l0]) (Ev.pos (by omega) (Ev.pos (by omega) (Ev.pos (by omega) ?_))), by rw [h, Bool.true_and]; exact hd⟩
   rw [rdIA tos i hil]
   refine Ev.bnd hc (Ev.neg (by simp) ?_)
   rw [wsucc (by omega)]
   exact hr
  ·rw [Bool.not_eq_true] at h
   rw [h] at hc
   refine ⟨(i : Int), Ev.step (fun k => by rw [slices_IndexFunc_impl_Addr_impl_Addr_at24.l0]) (Ev.pos (by omega) (Ev.pos (by omega) (Ev.pos (by omega) ?_))), by rw [h, Bool.false_and]; exact decide_eq_true (by omega)⟩
   rw [rdIA tos i hil]
   exact Ev.bnd hc (Ev.pos rfl (Ev.ret _))
theorem implMailOk_ev : Ev (fun k => impl_MailOk.f k u d tos body) (mailL u d tos body) := by
 obtain ⟨r, hr, hd⟩ := addrIndex_loop hB tos.length 0 (by omega)
 rw [List.drop_zero] at hd
 obtain ⟨h0, h1, ⟨h2, h3⟩, h4, h5⟩ := hB
 have hc : Ev (fun k => slices_ContainsFunc_impl_Addr_impl_Addr_at24.f k tos) (!tos.all addrA) := by
  have hr' : Ev (fun k => slices_IndexFunc_impl_Addr_impl_Addr_at24.f k tos) r := hr
  rw [← hd]
  exact Ev.bnd hr' (Ev.ret _)
 have hdi : impl_distinct_impl_Addr.f tos = some (decide (pairsA tos).Nodup) := by
  unfold impl_distinct_impl_Addr.f maxLen
  rw [if_pos ⟨fun x hx => by have := h3 x hx; omega, by omega⟩]
 have hin : Ev (fun k => (impl_within.f (tos.length : Int) 1 4)) (inB tos.length 1 4) := Ev.k (within_ev _ _ _)
 have hl : Ev (fun k => ((slices_ContainsFunc_impl_Addr_impl_Addr_at24.f k tos).bind fun t109 => (if t109 = true then (some false) else ((impl_distinct_impl_Addr.f tos).bind fun t110 => (if t110 = true then ((impl_isBody.f k body).bind fun t111 => (some t111)) else (some false)))))) (tos.all addrA && (decide (pairsA tos).Nodup && bodyOk body)) := by
  refine Ev.bnd hc ?_
  by_cases ha : tos.all addrA = true
  ·rw [ha, Bool.true_and]
   exact Ev.neg (by simp) (Ev.and (Ev.k hdi) (Ev.fwd (isBody_ev body (by omega) (fun s hs => by have := h5 s hs; omega))))
  ·rw [Bool.not_eq_true] at ha
   rw [ha, Bool.false_and]
   exact Ev.pos rfl (Ev.ret _)
 unfold impl_MailOk.f
 refine Ev.eq (Ev.and (sender_ev u d (by omega) (by omega)) (Ev.and hin hl)) ?_
 unfold mailL restM
 generalize senderA u d = a
 generalize inB (tos.length : Int) 1 4 = b
 generalize tos.all addrA = c
 generalize decide (pairsA tos).Nodup = e
 generalize bodyOk body = f
 cases a <;> cases b <;> cases c <;> cases e <;> cases f <;> rfl
end
end Go.Proofs.YthkibaldmjfmmaaGreatDoor.Q
namespace Go.Proofs.YthkibaldmjfmmaaGreatDoor.Q
open Go.RowKit Go.Proofs.YthkibaldmjfmmaaGreatDoorW.PrintWords Go.Proofs.YthkibaldmjfmmaaGreatDoorW.PrintLast Go.Proofs.YthkibaldmjfmmaaGreatDoorW.PrintMore
set_option linter.unusedVariables false
theorem cuts_bound (c : UInt8) (m : Nat) : ∀ (n : Nat) (l : List UInt8), (∀ p ∈ cuts c n l, p.length ≤ m) → l.length + 1 ≤ (m + 1) * (cuts c n l).length := by
 intro n
 induction n with
 | zero =>
  intro l h
  have := h l (List.mem_singleton.2 rfl)
  rw [show (cuts c 0 l).length = 1 from rfl]
  omega
 | succ n ih =>
  intro l h
  rcases index1_cases l c with hi | ⟨i, hi, hil⟩
  ·rw [cuts_none hi] at h ⊢
   have := h l (List.mem_singleton.2 rfl)
   rw [show [l].length = 1 from rfl]
   omega
  ·rw [cuts_at hi] at h ⊢
   have h1 := h _ (List.mem_cons_self ..)
   have h2 := ih (l.drop (i + 1)) (fun p hp => h p (List.mem_cons_of_mem _ hp))
   rw [List.length_take] at h1
   rw [List.length_drop] at h2
   rw [List.length_cons, Nat.mul_add]
   omega
theorem wordL_len {l : List UInt8} (h : wordL l = true) : l.length ≤ 8 := by
 unfold wordL at h
 rw [Bool.and_eq_true, decide_eq_true_eq] at h
 exact h.2.2
theorem domL_len {l : List UInt8} (h : domL l = true) : l.length ≤ 26 := by
 unfold domL at h
 rw [Bool.and_eq_true, decide_eq_true_eq, List.all_eq_true] at h
 have := cuts_bound 46 8 3 l (fun p hp => wordL_len (h.1 p hp))
 have h2 := h.2
 omega
end Go.Proofs.YthkibaldmjfmmaaGreatDoor.Q
namespace Go.Proofs.YthkibaldmjfmmaaGreatDoor.Q
open Go.RowKit Go.Proofs.YthkibaldmjfmmaaGreatDoorW.PrintWords Go.Proofs.YthkibaldmjfmmaaGreatDoorW.PrintLast Go.Proofs.YthkibaldmjfmmaaGreatDoorW.PrintMore
set_option linter.unusedVariables false
set_option linter.unusedSimpArgs false
def FROM : List UInt8 := [102, 114, 111, 109, 32]
def TO : List UInt8 := [116, 111, 32]
def fromLine (u d : ByteArray) : List UInt8 := FROM ++ (LL (textA u d) ++ CRLF)
def toLine (x : IA) : List UInt8 := TO ++ (LL (textA x.f0 x.f1) ++ CRLF)
def toLines (l : List IA) : List UInt8 := l.flatMap toLine
def putM (u d : ByteArray) (tos : List IA) (body : List ByteArray) : List UInt8 := fromLine u d ++ (toLines tos ++ (CRLF ++ dots body))
def mailPut (u d : ByteArray) (tos : List IA) (body : List ByteArray) : ByteArray := if mailL u d tos body = true then BB (putM u d tos body) else ⟨#[]⟩
theorem dots_len (ls : List ByteArray) : (dots ls).length = (dotLines ls).length + 3 := by
 unfold dots
 rw [List.length_append]
 rfl
theorem textA_size (u d : ByteArray) : (textA u d).size ≤ u.size + d.size + 3 := by
 unfold textA
 split
 ·show 2 ≤ _
  omega
 ·rw [size_BB]
  unfold textL
  simp only [List.length_cons, List.length_append, List.length_nil]
  rw [← size_LL, ← size_LL]
  omega
theorem addrL_size {u d : ByteArray} (h : addrL u d = true) : u.size ≤ 8 ∧ d.size ≤ 26 := by
 unfold addrL at h
 rw [Bool.and_eq_true] at h
 rw [size_LL, size_LL]
 exact ⟨wordL_len h.1, domL_len h.2⟩
theorem senderA_text {u d : ByteArray} (h : senderA u d = true) : (textA u d).size ≤ 37 := by
 unfold senderA at h
 rw [Bool.or_eq_true] at h
 have := textA_size u d
 rcases h with h | h
 ·obtain ⟨rfl, rfl⟩ := nullA_eq h
  show 2 ≤ 37
  omega
 ·have := addrL_size h
  omega
theorem mailL_parts {u d : ByteArray} {tos : List IA} {body : List ByteArray} (h : mailL u d tos body = true) :
 (tos.all addrA = true ∧ (pairsA tos).Nodup) ∧ senderA u d = true ∧ (1 ≤ tos.length ∧ tos.length ≤ 4) ∧ bodyOk body = true := by
 unfold mailL restM inB at h
 simp only [Bool.and_eq_true, decide_eq_true_eq] at h
 refine ⟨h.1, h.2.1, ?_, h.2.2.2⟩
 have := h.2.2.1
 omega
theorem toText {tos : List IA} (h : tos.all addrA = true) : ∀ x ∈ tos, (textA x.f0 x.f1).size ≤ 37 := fun x hx => by
 have h1 : addrL x.f0 x.f1 = true := List.all_eq_true.1 h x hx
 exact senderA_text (by unfold senderA; rw [h1, Bool.or_true])
theorem cat3 (x t : ByteArray) : LL (((x ++ (⟨#[116, 111, 32]⟩ : ByteArray)) ++ t) ++ (⟨#[13, 10]⟩ : ByteArray)) = LL x ++ (TO ++ (LL t ++ CRLF)) := by
 rw [LL_append, LL_append, LL_append, List.append_assoc, List.append_assoc]
 rfl
theorem cat4 (x t : ByteArray) : LL (x ++ (((⟨#[116, 111, 32]⟩ : ByteArray) ++ t) ++ (⟨#[13, 10]⟩ : ByteArray))) = LL x ++ (TO ++ (LL t ++ CRLF)) := by
 rw [LL_append, LL_append, LL_append, List.append_assoc]
 rfl
theorem catEnd (x t : ByteArray) (l : List UInt8) (h : t = BB l) : (x ++ (⟨#[13, 10]⟩ : ByteArray)) ++ t = BB (LL x ++ (CRLF ++ l)) := LL_inj (by
 rw [h, LL_append, LL_append, LL_BB, LL_BB, List.append_assoc]
 rfl)
theorem cat0 (t : ByteArray) : LL (((⟨#[102, 114, 111, 109, 32]⟩ : ByteArray) ++ t) ++ (⟨#[13, 10]⟩ : ByteArray)) = FROM ++ (LL t ++ CRLF) := by
 rw [LL_append, LL_append, List.append_assoc]
 rfl
section
variable {u d : ByteArray} {tos : List IA} {body : List ByteArray} (hB : MailB u d tos body) (hm : mailL u d tos body = true)
include hB hm
theorem l2Put_loop : ∀ m i : Nat, i + m = tos.length → ∀ x : ByteArray, x.size + 45 * m ≤ 1000 → Ev (fun k => spec_l2Put.l0 k x (i : Int) u d tos body) (BB (LL x ++ (toLines (tos.drop i) ++ (CRLF ++ dots body)))) := by
 obtain ⟨⟨ha, _⟩, _, ⟨_, h4⟩, hbo⟩ := mailL_parts hm
 have htx := toText ha
 have hbd := bodyOk_dots hbo
 have hz2 : (⟨#[13, 10]⟩ : ByteArray).size = 2 := rfl
 have hz3 : (⟨#[116, 111, 32]⟩ : ByteArray).size = 3 := rfl
 intro m
 induction m with
 | zero =>
  intro i hi x hx
  rw [List.drop_of_length_le (by omega)]
  refine Ev.step (fun k => by rw [spec_l2Put.l0]) (Ev.neg (by omega) (Ev.pos (by omega) (Ev.bnd (l2Dots_ev body (by have := (bodyOk_parts hbo).1; omega) (by omega)) (Ev.pos ?_ (Ev.eq (Ev.ret _) ?_)))))
  ·have hdl := dots_len body
   rw [size_append, size_BB (dots body), hz2]
   omega
  ·rw [catEnd x _ _ rfl]
   rfl
 | succ m ih =>
  intro i hi x hx
  have hil : i < tos.length := by omega
  have ht := htx _ (List.getElem_mem hil)
  obtain ⟨z0, z1⟩ := hB.2.2.1.2 _ (List.getElem_mem hil)
  rw [List.drop_eq_getElem_cons hil]
  refine Ev.step (fun k => by rw [spec_l2Put.l0]) (Ev.pos (by omega) (Ev.pos (by omega) (Ev.pos (by omega) ?_)))
  rw [rdIA tos i hil, wsucc (by omega)]
  refine Ev.bnd (Ev.k (l1Put_f _ _ (by omega) (by omega))) (Ev.pos ?_ (Ev.pos ?_ ?_))
  ·rw [size_append, hz3]; omega
  ·rw [size_append, size_append, hz3]; omega
  ·refine Ev.eq (ih (i + 1) (by omega) _ ?_) ?_
   ·rw [size_append, size_append, size_append, hz3, hz2]; omega
   ·rw [cat3]
    unfold toLines
    rw [List.flatMap_cons]
    unfold toLine
    simp only [List.append_assoc]
theorem implPut_loop : ∀ m i : Nat, i + m = tos.length → ∀ x : ByteArray, x.size + 45 * m ≤ 1000 → Ev (fun k => impl_MailPut.l0 k x tos (tos.length : Int) (i : Int) u d tos body) (BB (LL x ++ (toLines (tos.drop i) ++ (CRLF ++ dots body)))) := by
 obtain ⟨⟨ha, _⟩, _, ⟨_, h4⟩, hbo⟩ := mailL_parts hm
 have htx := toText ha
 have hbd := bodyOk_dots hbo
 have hz2 : (⟨#[13, 10]⟩ : ByteArray).size = 2 := rfl
 have hz3 : (⟨#[116, 111, 32]⟩ : ByteArray).size = 3 := rfl
 intro m
 induction m with
 | zero =>
  intro i hi x hx
  rw [List.drop_of_length_le (by omega)]
  refine Ev.step (fun k => by rw [impl_MailPut.l0]) (Ev.neg (by omega) (Ev.pos (by omega) (Ev.bnd (Ev.k (dotted_eq body (by omega))) (Ev.pos ?_ (Ev.eq (Ev.ret _) ?_)))))
  ·have hdl := dots_len body
   rw [size_append, size_BB (dots body), hz2]
   omega
  ·rw [catEnd x _ _ rfl]
   rfl
 | succ m ih =>
  intro i hi x hx
  have hil : i < tos.length := by omega
  have ht := htx _ (List.getElem_mem hil)
  obtain ⟨z0, z1⟩ := hB.2.2.1.2 _ (List.getElem_mem hil)
  rw [List.drop_eq_getElem_cons hil]
  refine Ev.step (fun k => by rw [impl_MailPut.l0]) (Ev.pos (by omega) (Ev.pos (by omega) (Ev.pos (by omega) ?_)))
  rw [rdIA tos i hil, wsucc (by omega)]
  refine Ev.bnd (Ev.k (text_f _ _ (by omega) (by omega))) (Ev.pos ?_ (Ev.pos ?_ (Ev.pos ?_ ?_)))
  ·omega
  ·rw [size_append, hz3]; omega
  ·rw [size_append, size_append, hz3, hz2]; omega
  ·refine Ev.eq (ih (i + 1) (by omega) _ ?_) ?_
   ·rw [size_append, size_append, size_append, hz3, hz2]; omega
   ·rw [cat4]
    unfold toLines
    rw [List.flatMap_cons]
    unfold toLine
    simp only [List.append_assoc]
theorem l2Put_ev : Ev (fun k => spec_l2Put.f k u d tos body) (BB (putM u d tos body)) := by
 obtain ⟨_, hs, ⟨_, h4⟩, _⟩ := mailL_parts hm
 have ht := senderA_text hs
 have hz5 : (⟨#[102, 114, 111, 109, 32]⟩ : ByteArray).size = 5 := rfl
 have hz2 : (⟨#[13, 10]⟩ : ByteArray).size = 2 := rfl
 unfold spec_l2Put.f
 refine Ev.bnd (Ev.k (l1Put_f u d (by have := hB.1; omega) (by have := hB.2.1; omega))) (Ev.pos (by omega) (Ev.pos (by rw [size_append, hz5]; omega) ?_))
 refine Ev.eq (l2Put_loop hB hm tos.length 0 (by omega) _ (by rw [size_append, size_append, hz5, hz2]; omega)) ?_
 rw [cat0, List.drop_zero]
 rfl
end
theorem specMailPut_ev {u d : ByteArray} {tos : List IA} {body : List ByteArray} (hB : MailB u d tos body) : Ev (fun k => spec_MailPut.f k u d tos body) (mailPut u d tos body) := by
 unfold spec_MailPut.f mailPut
 refine Ev.bnd (l2Ok_ev hB) ?_
 by_cases hm : mailL u d tos body = true
 ·exact Ev.eq (Ev.pos hm (Ev.bnd (l2Put_ev hB hm) (Ev.ret _))) (if_pos hm).symm
 ·exact Ev.eq (Ev.neg hm (Ev.ret _)) (if_neg hm).symm
theorem implMailPut_ev {u d : ByteArray} {tos : List IA} {body : List ByteArray} (hB : MailB u d tos body) : Ev (fun k => impl_MailPut.f k u d tos body) (mailPut u d tos body) := by
 unfold impl_MailPut.f mailPut
 refine Ev.bnd (implMailOk_ev hB) ?_
 by_cases hm : mailL u d tos body = true
 ·obtain ⟨_, hs, ⟨_, h4⟩, _⟩ := mailL_parts hm
  have ht := senderA_text hs
  have hz5 : (⟨#[102, 114, 111, 109, 32]⟩ : ByteArray).size = 5 := rfl
  have hz2 : (⟨#[13, 10]⟩ : ByteArray).size = 2 := rfl
  refine Ev.eq (Ev.pos hm (Ev.bnd (Ev.k (text_f u d (by have := hB.1; omega) (by have := hB.2.1; omega))) (Ev.pos (by omega) (Ev.pos (by rw [size_append, hz5]; omega) (implPut_loop hB hm tos.length 0 (by omega) _ (by rw [size_append, size_append, hz5, hz2]; omega)))))) ?_
  rw [if_pos hm, cat0, List.drop_zero]
  rfl
 ·exact Ev.eq (Ev.neg hm (Ev.ret _)) (if_neg hm).symm
end Go.Proofs.YthkibaldmjfmmaaGreatDoor.Q
namespace Go.Proofs.YthkibaldmjfmmaaGreatDoor.Q
open Go.RowKit Go.Proofs.YthkibaldmjfmmaaGreatDoorW.PrintWords Go.Proofs.YthkibaldmjfmmaaGreatDoorW.PrintLast Go.Proofs.YthkibaldmjfmmaaGreatDoorW.PrintMore
set_option linter.unusedVariables false
set_option linter.unusedSimpArgs false
theorem hasPrefix_one (l : List UInt8) (c : UInt8) : Lib.hasPrefix l [c] = true ↔ ∃ t, l = c :: t := by
 cases l with
 | nil => simp [Lib.hasPrefix]
 | cons a t => simp [Lib.hasPrefix, List.isPrefixOf]; exact eq_comm
theorem litePrefix_f (a b : ByteArray) : stringslite_HasPrefix.f a b = some (Lib.hasPrefix (LL a) (LL b)) := by
 unfold stringslite_HasPrefix.f
 rw [← Lib.hasPrefix_of_take]
 by_cases h : (a.size : Int) ≥ (b.size : Int)
 ·rw [if_pos h, if_pos (by omega), if_pos (by omega), Int.toNat_natCast, toList_LL, toList_LL, LL_extract]
  have : decide ((LL b).length ≤ (LL a).length) = true := by rw [← size_LL, ← size_LL]; simp; omega
  rw [this, Bool.true_and, List.drop_zero, Nat.sub_zero, size_LL]
 ·rw [if_neg h]
  have : decide ((LL b).length ≤ (LL a).length) = false := by rw [← size_LL, ← size_LL]; simp; omega
  rw [this]
  rfl
theorem prefix_size {a b : ByteArray} (h : Lib.hasPrefix (LL a) (LL b) = true) : b.size ≤ a.size := by
 rw [← Lib.hasPrefix_of_take] at h
 simp only [Bool.and_eq_true, decide_eq_true_eq] at h
 rw [size_LL, size_LL]
 exact h.1
theorem cutPrefix_f (a b : ByteArray) : strings_CutPrefix.f a b = some (if Lib.hasPrefix (LL a) (LL b) = true then (BB ((LL a).drop b.size), true) else (a, false)) := by
 unfold strings_CutPrefix.f stringslite_CutPrefix.f
 rw [litePrefix_f]
 simp only [Option.bind_some]
 by_cases h : Lib.hasPrefix (LL a) (LL b) = true
 ·have hle := prefix_size h
  rw [if_pos h, if_pos h, if_pos (by omega), if_pos (by omega), Int.toNat_natCast, extract_BB, size_LL a, List.take_of_length_le (by rw [List.length_drop]; exact Nat.le_refl _)]
  rfl
 ·rw [if_neg h, if_neg h]
  rfl
theorem liteSuffix_f (a b : ByteArray) (ha : a.size ≤ 9223372036854775807) (hb : b.size ≤ 9223372036854775807) : stringslite_HasSuffix.f a b = some (decide (b.size ≤ a.size ∧ (LL a).drop (a.size - b.size) = LL b)) := by
 have hsa := size_LL a
 have hsb := size_LL b
 unfold stringslite_HasSuffix.f
 by_cases h : (a.size : Int) ≥ (b.size : Int)
 ·rw [if_pos h, w64 (x := (a.size : Int) - (b.size : Int)) (by omega) (by omega), if_pos (by omega), if_pos (by omega)]
  congr 1
  rw [Bool.eq_iff_iff, beq_iff_eq, decide_eq_true_eq, toList_LL, toList_LL, LL_extract, show ((a.size : Int) - (b.size : Int)).toNat = a.size - b.size by omega, List.take_of_length_le (by rw [List.length_drop]; omega)]
  exact ⟨fun e => ⟨by omega, e⟩, fun e => e.2⟩
 ·rw [if_neg h]
  congr 1
  symm
  rw [decide_eq_false_iff_not]
  omega
theorem trimSuffix_f (a b : ByteArray) (ha : a.size ≤ 9223372036854775807) (hb : b.size ≤ 9223372036854775807) : strings_TrimSuffix.f a b = some (if b.size ≤ a.size ∧ (LL a).drop (a.size - b.size) = LL b then BB ((LL a).take (a.size - b.size)) else a) := by
 unfold strings_TrimSuffix.f stringslite_TrimSuffix.f
 rw [liteSuffix_f a b ha hb]
 simp only [Option.bind_some]
 by_cases h : b.size ≤ a.size ∧ (LL a).drop (a.size - b.size) = LL b
 ·rw [if_pos h, if_pos (by simpa using h), w64 (by omega) (by omega), if_pos (by omega), if_pos (by omega), extract_BB, List.drop_zero, Nat.sub_zero, show ((a.size : Int) - (b.size : Int)).toNat = a.size - b.size by omega]
  rfl
 ·rw [if_neg h, if_neg (by simpa using h)]
  rfl
theorem index_at {a b : List UInt8} {c : UInt8} (ha : c ∉ a) : Lib.index (a ++ c :: b) [c] = (a.length : Int) := by
 refine Lib.index_first (by simp) ?_ (fun j hj => ?_)
 ·rw [occ1_iff, List.getElem?_append_right (Nat.le_refl _), Nat.sub_self]; rfl
 ·rw [← Bool.not_eq_true, occ1_iff, List.getElem?_append_left hj]
  exact fun e => ha (List.mem_of_getElem? e)
theorem index_no {a : List UInt8} {c : UInt8} (ha : c ∉ a) : Lib.index a [c] = -1 := by
 exact Lib.index_none (fun j _ => by rw [← Bool.not_eq_true, occ1_iff]; exact fun e => ha (List.mem_of_getElem? e))
theorem cut_at {a b : List UInt8} {c : UInt8} (ha : c ∉ a) : Lib.cut (a ++ c :: b) [c] = (a, b, true) := by
 unfold Lib.cut
 rw [index_at ha]
 have h1 : (a ++ c :: b).take a.length = a := by simp
 have h2 : (a ++ c :: b).drop (a.length + 1) = b := by rw [← List.drop_drop, List.drop_left]; rfl
 simp [h2]
theorem cut_no {a : List UInt8} {c : UInt8} (ha : c ∉ a) : Lib.cut a [c] = (a, [], false) := by
 unfold Lib.cut
 rw [index_no ha]
 simp
theorem cuts_pair {a b : List UInt8} {c : UInt8} (ha : c ∉ a) (hb : c ∉ b) (n : Nat) : cuts c (n + 1) (a ++ c :: b) = [a, b] := by
 rw [cuts_at (index_at ha), List.take_left, show (a ++ c :: b).drop (a.length + 1) = b by rw [← List.drop_drop, List.drop_left]; rfl, cuts_none (index_no hb)]
theorem cuts_two {l : List UInt8} {c : UInt8} {n : Nat} (h : (cuts c (n + 2) l).length = 2) : ∃ a b, cuts c (n + 2) l = [a, b] ∧ l = a ++ c :: b := by
 rcases Lib.index_spec l [c] with ⟨h1, _⟩ | ⟨i, h1, _, hocc, _⟩
 ·rw [cuts_none h1] at h
  simp at h
 ·rw [cuts_at h1] at h ⊢
  obtain ⟨h2, h3⟩ := List.getElem?_eq_some_iff.1 ((occ1_iff l c i).1 hocc)
  rcases index1_cases (l.drop (i + 1)) c with h4 | ⟨j, h4, _⟩
  ·rw [cuts_none h4]
   refine ⟨_, _, rfl, ?_⟩
   conv => lhs; rw [← List.take_append_drop i l, List.drop_eq_getElem_cons h2, h3]
  ·rw [cuts_at h4, List.length_cons, List.length_cons] at h
   have := cuts_len c n ((l.drop (i + 1)).drop (j + 1))
   omega
end Go.Proofs.YthkibaldmjfmmaaGreatDoor.Q
namespace Go.Proofs.YthkibaldmjfmmaaGreatDoor.Q
open Go.RowKit Go.Proofs.YthkibaldmjfmmaaGreatDoorW.PrintWords Go.Proofs.YthkibaldmjfmmaaGreatDoorW.PrintLast Go.Proofs.YthkibaldmjfmmaaGreatDoorW.PrintMore
set_option linter.unusedVariables false
set_option linter.unusedSimpArgs false
def Got (s : ByteArray) (v : ByteArray × ByteArray × Bool) : Prop :=
 (∃ u d, v = (u, d, true) ∧ senderA u d = true ∧ textA u d = s) ∨ (v = (⟨#[]⟩, ⟨#[]⟩, false) ∧ ∀ u d, senderA u d = true → textA u d ≠ s)
theorem Got.one {s : ByteArray} {v v' : ByteArray × ByteArray × Bool} (h : Got s v) (h' : Got s v') : v = v' := by
 rcases h with ⟨u, d, rfl, h1, h2⟩ | ⟨rfl, h1⟩
 ·rcases h' with ⟨u', d', rfl, h3, h4⟩ | ⟨rfl, h3⟩
  ·obtain ⟨rfl, rfl⟩ := text_inj h1 h3 (h2.trans h4.symm)
   rfl
  ·exact absurd h2 (h3 u d h1)
 ·rcases h' with ⟨u', d', rfl, h3, h4⟩ | ⟨rfl, h3⟩
  ·exact absurd h4 (h1 u' d' h3)
  ·rfl
theorem sender_cases {u d : ByteArray} (h : senderA u d = true) : (u = ⟨#[]⟩ ∧ d = ⟨#[]⟩) ∨ addrL u d = true := by
 unfold senderA at h
 rw [Bool.or_eq_true] at h
 exact h.imp nullA_eq id
theorem sender_of {u d : ByteArray} (h : addrL u d = true) : senderA u d = true := by unfold senderA; rw [h, Bool.or_true]
theorem sender_null : senderA ⟨#[]⟩ ⟨#[]⟩ = true := by decide
theorem textA_inner {u d : ByteArray} (h : addrL u d = true) {s : ByteArray} (e : textA u d = s) : LL s = 60 :: ((LL u ++ 64 :: LL d) ++ [62]) := by
 rw [textA_addr h] at e
 rw [← e, LL_BB]
 unfold textL
 simp
theorem specGet_j0 (s : ByteArray) : Ev (fun k => spec_AddrGet.j0 k s true) ((⟨#[]⟩ : ByteArray), (⟨#[]⟩ : ByteArray), false) :=
 Ev.step (fun k => by rw [spec_AddrGet.j0]) (Ev.pos rfl (Ev.ret _))
theorem specAddrGet_ev (s : ByteArray) (hs : s.size ≤ 1099511627776) : ∃ v, Ev (fun k => spec_AddrGet.f k s) v ∧ Got s v := by
 have hsz := size_LL s
 unfold spec_AddrGet.f
 by_cases h0 : s = ⟨#[60, 62]⟩
 ·refine ⟨_, Ev.pos (toList_BB.2 h0) (Ev.ret _), .inl ⟨_, _, rfl, sender_null, ?_⟩⟩
  rw [textA_null, h0]
 ·have hno : ∀ (P : Prop), (∀ u d, addrL u d = true → textA u d = s → False) → Got s ((⟨#[]⟩ : ByteArray), (⟨#[]⟩ : ByteArray), false) := by
   intro _ hh
   refine .inr ⟨rfl, fun u d hu e => ?_⟩
   rcases sender_cases hu with ⟨rfl, rfl⟩ | hu
   ·exact h0 (e.symm.trans textA_null)
   ·exact hh u d hu e
  have hneg := fun e => h0 (toList_BB.1 e)
  by_cases h1 : (s.size : Int) < 2
  ·refine ⟨_, Ev.neg hneg (Ev.pos h1 (specGet_j0 s)), hno True (fun u d hu e => ?_)⟩
   have := congrArg List.length (textA_inner hu e)
   rw [← hsz] at this
   simp at this
   omega
  ·obtain ⟨c, hc, hcb⟩ := bt_get s 0 (by omega)
   have hcb : bt s 0 = (c.toNat : Int) := hcb
   by_cases h2 : bt s 0 = 60
   ·obtain ⟨e, he, heb⟩ := bt_get s (s.size - 1) (by omega)
    have hw : wrap64 ((s.size : Int) - 1) = ((s.size - 1 : Nat) : Int) := by rw [w64 (by omega) (by omega)]; omega
    have c60 : c = 60 := u8_ext (by rw [hcb] at h2; simp; omega)
    subst c60
    by_cases h3 : e = 62
    ·subst h3
     have hl : LL s = 60 :: (((LL s).drop 1).take (s.size - 2) ++ [62]) := by
      have e1 : LL s = 60 :: (LL s).drop 1 := by
       have := List.drop_eq_getElem_cons (l := LL s) (i := 0) (by omega)
       rw [List.drop_zero] at this
       rw [this]
       congr 1
       rw [List.getElem?_eq_getElem (by omega)] at hc
       exact Option.some.inj hc
      have e2 : (LL s).drop 1 = ((LL s).drop 1).take (s.size - 2) ++ [62] := by
       have hlen : ((LL s).drop 1).length = s.size - 1 := by rw [List.length_drop]; omega
       conv => lhs; rw [← List.take_append_drop (s.size - 2) ((LL s).drop 1)]
       congr 1
       rw [List.drop_drop, show 1 + (s.size - 2) = s.size - 1 by omega]
       have h5 : s.size - 1 < (LL s).length := by omega
       rw [List.drop_eq_getElem_cons h5, List.drop_of_length_le (by omega)]
       congr 1
       rw [List.getElem?_eq_getElem h5] at he
       exact Option.some.inj he
      rw [← e2]
      exact e1
     have hin : s.extract 1 ((s.size - 1 : Nat) : Int).toNat = BB (((LL s).drop 1).take (s.size - 2)) := by
      rw [Int.toNat_natCast, extract_BB, show s.size - 1 - 1 = s.size - 2 by omega]
     generalize hinn : ((LL s).drop 1).take (s.size - 2) = inn at *
     have hinl : inn.length ≤ s.size := by rw [← hinn, List.length_take, List.length_drop]; omega
     have hev : ∀ v, Ev (fun k => (spec_l1Cut.f k (BB inn) 64 2).bind fun t134 => (if (t134.length : Int) = 2 then (if 0 < (t134.length : Int) then (if 1 < (t134.length : Int) then ((spec_l1AddrOk.f k (rdOf ByteArray.empty t134 0) (rdOf ByteArray.empty t134 1)).bind fun t140 => (if t140 = true then (some (rdOf ByteArray.empty t134 0, rdOf ByteArray.empty t134 1, true)) else (some ((⟨#[]⟩ : ByteArray), (⟨#[]⟩ : ByteArray), false)))) else (none)) else (none)) else (some ((⟨#[]⟩ : ByteArray), (⟨#[]⟩ : ByteArray), false)))) v →
      Ev (fun k => if s.toList = ([60, 62] : List UInt8) then (some ((⟨#[]⟩ : ByteArray), (⟨#[]⟩ : ByteArray), true)) else (if (s.size : Int) < 2 then (spec_AddrGet.j0 k s true) else (if 0 < (s.size : Int) then (if (bt s 0) = 60 then (if 0 ≤ (wrap64 ((s.size : Int) - 1)) then (if (wrap64 ((s.size : Int) - 1)) < (s.size : Int) then (spec_AddrGet.j0 k s ((bt s (wrap64 ((s.size : Int) - 1))) != 62)) else (none)) else (none)) else (spec_AddrGet.j0 k s true)) else (none)))) v := by
      intro v hv
      refine Ev.neg hneg (Ev.neg h1 (Ev.pos (by omega) (Ev.pos h2 ?_)))
      rw [hw]
      refine Ev.pos (by omega) (Ev.pos (by omega) ?_)
      rw [heb]
      refine Ev.step (fun k => by rw [spec_AddrGet.j0]) ?_
      refine Ev.neg (by simp) ?_
      rw [hw]
      refine Ev.pos (by omega) (Ev.pos (by omega) ?_)
      rw [hin]
      exact hv
     have hcut := l1Cut_ev (BB inn) 64 2 (by omega) (by rw [size_BB]; omega)
     rw [LL_BB] at hcut
     by_cases h4 : (cuts 64 2 inn).length = 2
     ·obtain ⟨a, b, hab, hlab⟩ := cuts_two (n := 0) h4
      have hab : cuts 64 2 inn = [a, b] := hab
      rw [hab] at hcut
      have ha : a.length ≤ s.size ∧ b.length ≤ s.size := by
       have := congrArg List.length hlab
       simp at this
       omega
      have hok := l1AddrOk_ev (BB a) (BB b) (by rw [size_BB]; omega) (by rw [size_BB]; omega)
      by_cases h5 : addrL (BB a) (BB b) = true
      ·refine ⟨(BB a, BB b, true), hev _ (Ev.bnd hcut (Ev.pos rfl (Ev.pos (by simp) (Ev.pos (by simp) (Ev.bnd hok (Ev.pos h5 (Ev.ret _))))))), .inl ⟨_, _, rfl, sender_of h5, ?_⟩⟩
       rw [textA_addr h5, LL_BB, LL_BB]
       apply LL_inj
       rw [LL_BB, hl, hlab]
       unfold textL
       simp
      ·refine ⟨_, hev _ (Ev.bnd hcut (Ev.pos rfl (Ev.pos (by simp) (Ev.pos (by simp) (Ev.bnd hok (Ev.neg h5 (Ev.ret _))))))), hno True (fun u d hu eu => ?_)⟩
       have e1 := textA_inner hu eu
       rw [hl] at e1
       have e2 := List.append_cancel_right (List.cons.inj e1).2
       rw [hlab] at e2
       have n1 := addrL_no hu 64 (by decide) (by decide)
       have hpair := cuts_pair (c := 64) n1.1 n1.2 1
       rw [← e2, ← hlab, hab] at hpair
       injection hpair with q1 q2
       injection q2 with q2 _
       apply h5
       rw [q1, q2, BB_LL, BB_LL]
       exact hu
     ·refine ⟨_, hev _ (Ev.bnd hcut (Ev.neg (by rw [List.length_map]; omega) (Ev.ret _))), hno True (fun u d hu eu => ?_)⟩
      have e1 := textA_inner hu eu
      rw [hl] at e1
      have e2 := List.append_cancel_right (List.cons.inj e1).2
      have n1 := addrL_no hu 64 (by decide) (by decide)
      apply h4
      rw [e2, cuts_pair (c := 64) n1.1 n1.2 1]
      rfl
    ·refine ⟨((⟨#[]⟩ : ByteArray), (⟨#[]⟩ : ByteArray), false), ?_, hno True (fun u d hu eu => ?_)⟩
     ·refine Ev.neg hneg (Ev.neg h1 (Ev.pos (by omega) (Ev.pos h2 ?_)))
      rw [hw]
      refine Ev.pos (by omega) (Ev.pos (by omega) ?_)
      rw [heb, show ((e.toNat : Int) != 62) = true by rw [bne_iff_ne]; exact fun q => h3 (u8_ext (by simp; omega))]
      exact specGet_j0 s
     ·have e1 := textA_inner hu eu
      apply h3
      have e2 : (LL s)[s.size - 1]? = some 62 := by
       have hlen := congrArg List.length e1
       rw [← hsz] at hlen
       simp at hlen
       rw [e1]
       rw [show s.size - 1 = ((LL u ++ 64 :: LL d).length) + 1 by simp; omega, List.getElem?_cons_succ, List.getElem?_append_right (Nat.le_refl _), Nat.sub_self]
       rfl
      rw [he] at e2
      exact Option.some.inj e2
   ·refine ⟨_, Ev.neg hneg (Ev.neg h1 (Ev.pos (by omega) (Ev.neg h2 (specGet_j0 s)))), hno True (fun u d hu eu => ?_)⟩
    have e1 := textA_inner hu eu
    rw [e1] at hc
    apply h2
    rw [hcb, ← Option.some.inj hc]
    rfl
theorem implAddrGet_ev (s : ByteArray) (hs : s.size ≤ 4294967280) : ∃ v, Ev (fun k => impl_AddrGet.f k s) v ∧ Got s v := by
 have hsz := size_LL s
 unfold impl_AddrGet.f
 by_cases h1 : Lib.hasPrefix (LL s) [60] = true
 ·obtain ⟨t, ht⟩ := (hasPrefix_one _ _).1 h1
  have hcp : strings_CutPrefix.f s ⟨#[60]⟩ = some (BB t, true) := by
   rw [cutPrefix_f, if_pos (by exact h1), show (⟨#[60]⟩ : ByteArray).size = 1 from rfl, ht]
   rfl
  have htl : t.length + 1 = s.size := by rw [hsz, ht]; rfl
  have hts := trimSuffix_f (BB t) ⟨#[62]⟩ (by rw [size_BB]; omega) (by decide)
  obtain ⟨x, hx, hxl⟩ : ∃ x, strings_TrimSuffix.f (BB t) ⟨#[62]⟩ = some (BB x) ∧ (x.length ≤ t.length ∧ ∀ y, t = y ++ [62] → x = y) := by
   have hts' : strings_TrimSuffix.f (BB t) ⟨#[62]⟩ = some (if 1 ≤ t.length ∧ t.drop (t.length - 1) = [62] then BB (t.take (t.length - 1)) else BB t) := hts
   rw [hts']
   by_cases h : 1 ≤ t.length ∧ t.drop (t.length - 1) = [62]
   ·rw [if_pos h]
    refine ⟨_, rfl, by rw [List.length_take]; omega, fun y hy => ?_⟩
    rw [hy]
    simp
   ·rw [if_neg h]
    refine ⟨t, rfl, Nat.le_refl _, fun y hy => absurd ?_ h⟩
    rw [hy]
    simp
  have hcut : strings_Cut.f (BB x) ⟨#[64]⟩ = some (BB (Lib.cut x [64]).1, BB (Lib.cut x [64]).2.1, (Lib.cut x [64]).2.2) := by
   unfold strings_Cut.f
   rw [if_pos (by rw [size_BB]; omega)]
  have hcl : (Lib.cut x [64]).1.length ≤ x.length ∧ (Lib.cut x [64]).2.1.length ≤ x.length := by
   have hge := Lib.index_ge x [64]
   by_cases hm : Lib.index x [64] = -1
   ·unfold Lib.cut
    rw [hm]
    simp
   ·obtain ⟨i, hi⟩ : ∃ i : Nat, Lib.index x [64] = i := ⟨(Lib.index x [64]).toNat, by omega⟩
    unfold Lib.cut
    rw [hi]
    simp [List.length_take, List.length_drop]
    omega
  generalize hu0 : BB (Lib.cut x [64]).1 = u0 at hcut
  generalize hd0 : BB (Lib.cut x [64]).2.1 = d0 at hcut
  have su : u0.size ≤ 4294967280 := by rw [← hu0, size_BB]; omega
  have sd : d0.size ≤ 4294967280 := by rw [← hd0, size_BB]; omega
  have hno : ¬ (senderA u0 d0 = true ∧ textA u0 d0 = s) → Got s ((⟨#[]⟩ : ByteArray), (⟨#[]⟩ : ByteArray), false) := by
   intro hh
   refine .inr ⟨rfl, fun u d hu e => hh ?_⟩
   rcases sender_cases hu with ⟨rfl, rfl⟩ | hu
   ·rw [textA_null] at e
    have : t = [] ++ [62] := by
     have := congrArg LL e
     rw [ht] at this
     exact ((List.cons.inj this).2).symm
    have hx0 := hxl.2 [] this
    rw [hx0] at hu0 hd0
    have e1 : u0 = ⟨#[]⟩ := hu0.symm.trans (by rw [cut_no (by simp)])
    have e2 : d0 = ⟨#[]⟩ := hd0.symm.trans (by rw [cut_no (by simp)])
    rw [e1, e2]
    exact ⟨sender_null, e⟩
   ·have e1 := textA_inner hu e
    rw [ht] at e1
    have hx0 := hxl.2 _ (List.cons.inj e1).2
    have n1 := addrL_no hu 64 (by decide) (by decide)
    rw [hx0, cut_at n1.1] at hu0 hd0
    have e2 : u0 = u := by rw [← hu0, BB_LL]
    have e3 : d0 = d := by rw [← hd0, BB_LL]
    rw [e2, e3]
    exact ⟨sender_of hu, e⟩
  by_cases h2 : senderA u0 d0 = true
  ·by_cases h3 : textA u0 d0 = s
   ·exact ⟨(u0, d0, true), Ev.bnd (Ev.k hcp) (Ev.bnd (Ev.k hx) (Ev.bnd (Ev.k hcut) (Ev.pos rfl (Ev.bnd (sender_ev u0 d0 su sd) (Ev.pos h2 (Ev.bnd (Ev.k (text_f u0 d0 (by omega) (by omega))) (Ev.pos (toList_eq.2 h3) (Ev.ret _)))))))), .inl ⟨_, _, rfl, h2, h3⟩⟩
   ·exact ⟨_, Ev.bnd (Ev.k hcp) (Ev.bnd (Ev.k hx) (Ev.bnd (Ev.k hcut) (Ev.pos rfl (Ev.bnd (sender_ev u0 d0 su sd) (Ev.pos h2 (Ev.bnd (Ev.k (text_f u0 d0 (by omega) (by omega))) (Ev.neg (fun q => h3 (toList_eq.1 q)) (Ev.ret _)))))))), hno (fun q => h3 q.2)⟩
  ·exact ⟨_, Ev.bnd (Ev.k hcp) (Ev.bnd (Ev.k hx) (Ev.bnd (Ev.k hcut) (Ev.pos rfl (Ev.bnd (sender_ev u0 d0 su sd) (Ev.neg h2 (Ev.ret _)))))), hno (fun q => h2 q.1)⟩
 ·have hcp : strings_CutPrefix.f s ⟨#[60]⟩ = some (s, false) := by rw [cutPrefix_f, if_neg (by exact h1)]
  obtain ⟨x, hx, hxl⟩ : ∃ x, strings_TrimSuffix.f s ⟨#[62]⟩ = some (BB x) ∧ x.length ≤ s.size := by
   rw [trimSuffix_f s ⟨#[62]⟩ (by omega) (by decide)]
   split
   ·exact ⟨_, rfl, by rw [List.length_take]; omega⟩
   ·exact ⟨LL s, by rw [BB_LL], by omega⟩
  have hcut : strings_Cut.f (BB x) ⟨#[64]⟩ = some (BB (Lib.cut x [64]).1, BB (Lib.cut x [64]).2.1, (Lib.cut x [64]).2.2) := by
   unfold strings_Cut.f
   rw [if_pos (by rw [size_BB]; omega)]
  refine ⟨_, Ev.bnd (Ev.k hcp) (Ev.bnd (Ev.k hx) (Ev.bnd (Ev.k hcut) (Ev.neg (by simp) (Ev.ret _)))), .inr ⟨rfl, fun u d hu e => h1 ?_⟩⟩
  rw [hasPrefix_one]
  rcases sender_cases hu with ⟨rfl, rfl⟩ | hu
  ·rw [textA_null] at e
   exact ⟨[62], by rw [← e]⟩
  ·exact ⟨_, textA_inner hu e⟩
theorem addrGet_ev (s : ByteArray) (hs : s.size ≤ 4294967280) : ∃ v, Ev (fun k => spec_AddrGet.f k s) v ∧ Ev (fun k => impl_AddrGet.f k s) v ∧ Got s v := by
 obtain ⟨v, h1, h2⟩ := specAddrGet_ev s (by omega)
 obtain ⟨v', h3, h4⟩ := implAddrGet_ev s hs
 rw [Got.one h4 h2] at h3
 exact ⟨v, h1, h3, h2⟩
end Go.Proofs.YthkibaldmjfmmaaGreatDoor.Q
namespace Go.Proofs.YthkibaldmjfmmaaGreatDoor.Q
open Go.RowKit Go.Proofs.YthkibaldmjfmmaaGreatDoorW.PrintWords Go.Proofs.YthkibaldmjfmmaaGreatDoorW.PrintLast Go.Proofs.YthkibaldmjfmmaaGreatDoorW.PrintMore
set_option linter.unusedVariables false
set_option linter.unusedSimpArgs false
def Has {α : Type} (g : Nat → Option α) (P : α → Prop) : Prop := ∃ v, Ev g v ∧ P v
section
variable {α β : Type} {g g' : Nat → Option α} {P Q : α → Prop}
theorem Has.step (hg : ∀ k, g (k + 1) = g' k) (h : Has g' P) : Has g P := by
 obtain ⟨v, e, p⟩ := h
 exact ⟨v, Ev.step hg e, p⟩
theorem Has.pos {c : Prop} [Decidable c] (h : c) (e : Has g P) : Has (fun k => if c then g k else g' k) P := by
 obtain ⟨v, e, p⟩ := e
 exact ⟨v, Ev.pos h e, p⟩
theorem Has.neg {c : Prop} [Decidable c] (h : ¬ c) (e : Has g' P) : Has (fun k => if c then g k else g' k) P := by
 obtain ⟨v, e, p⟩ := e
 exact ⟨v, Ev.neg h e, p⟩
theorem Has.bnd {h : Nat → Option β} {F : Nat → β → Option α} {a : β} (e : Ev h a) (k : Has (fun n => F n a) P) : Has (fun n => (h n).bind (F n)) P := by
 obtain ⟨v, e2, p⟩ := k
 exact ⟨v, Ev.bnd e e2, p⟩
theorem Has.ret {v : α} (h : P v) : Has (fun _ => some v) P := ⟨v, Ev.ret v, h⟩
theorem Has.imp (h : Has g P) (hpq : ∀ v, P v → Q v) : Has g Q := by
 obtain ⟨v, e, p⟩ := h
 exact ⟨v, e, hpq v p⟩
end
theorem textA_no13 {u d : ByteArray} (h : senderA u d = true) : (13 : UInt8) ∉ LL (textA u d) := by
 rcases sender_cases h with ⟨rfl, rfl⟩ | ha
 ·rw [textA_null]
  decide
 ·rw [textA_addr ha, LL_BB]
  obtain ⟨h1, h2⟩ := addrL_no ha 13 (by decide) (by decide)
  unfold textL
  intro e
  simp only [List.mem_cons, List.mem_append, List.not_mem_nil, or_false] at e
  rcases e with e | e | e | e | e
  ·exact absurd e (by decide)
  ·exact h1 e
  ·exact absurd e (by decide)
  ·exact h2 e
  ·exact absurd e (by decide)
def hdr (u d : ByteArray) (tos : List IA) : List (List UInt8) := (FROM ++ LL (textA u d)) :: tos.map (fun x => TO ++ LL (textA x.f0 x.f1))
theorem toLines_join (tos : List IA) : toLines tos = joinE (tos.map (fun x => TO ++ LL (textA x.f0 x.f1))) := by
 induction tos with
 | nil => rfl
 | cons x tos ih =>
  rw [List.map_cons, joinE_cons, ← ih]
  unfold toLines
  rw [List.flatMap_cons]
  unfold toLine
  simp only [List.append_assoc]
  rfl
theorem putM_hdr (u d : ByteArray) (tos : List IA) (body : List ByteArray) : putM u d tos body = joinE (hdr u d tos) ++ 13 :: 10 :: dots body := by
 unfold putM hdr fromLine
 rw [joinE_cons, toLines_join]
 simp only [List.append_assoc, List.cons_append]
 rfl
theorem hdr_ok {u d : ByteArray} {tos : List IA} (hs : senderA u d = true) (ha : tos.all addrA = true) : ∀ h ∈ hdr u d tos, h ≠ [] ∧ (13 : UInt8) ∉ h := by
 intro h hh
 unfold hdr at hh
 rcases List.mem_cons.1 hh with rfl | hh
 ·refine ⟨by simp [FROM], fun e => ?_⟩
  rcases List.mem_append.1 e with e | e
  ·exact absurd e (by decide)
  ·exact textA_no13 hs e
 ·obtain ⟨x, hx, rfl⟩ := List.mem_map.1 hh
  have h1 : addrL x.f0 x.f1 = true := List.all_eq_true.1 ha x hx
  refine ⟨by simp [TO], fun e => ?_⟩
  rcases List.mem_append.1 e with e | e
  ·exact absurd e (by decide)
  ·exact textA_no13 (sender_of h1) e
theorem addrGet_text {u d : ByteArray} (h : senderA u d = true) : Ev (fun k => spec_AddrGet.f k (textA u d)) (u, d, true) ∧ Ev (fun k => impl_AddrGet.f k (textA u d)) (u, d, true) := by
 obtain ⟨v, h1, h2, h3⟩ := addrGet_ev (textA u d) (by have := senderA_text h; omega)
 have hv : v = (u, d, true) := Got.one h3 (.inl ⟨u, d, rfl, h, rfl⟩)
 subst hv
 exact ⟨h1, h2⟩
theorem toLines_size (tos : List IA) (hx : ∀ x ∈ tos, (textA x.f0 x.f1).size ≤ 37) : (toLines tos).length ≤ 45 * tos.length := by
 induction tos with
 | nil => exact Nat.zero_le _
 | cons x tos ih =>
  have := hx x (List.mem_cons_self ..)
  have i1 := ih (fun y hy => hx y (List.mem_cons_of_mem _ hy))
  have e0 : toLines (x :: tos) = toLine x ++ toLines tos := by unfold toLines; rw [List.flatMap_cons]
  have e1 : (toLine x).length = 5 + (textA x.f0 x.f1).size := by
   unfold toLine
   simp only [List.length_append, ← size_LL]
   have e1 : TO.length = 3 := rfl
   have e2 : CRLF.length = 2 := rfl
   omega
  rw [e0, List.length_append, List.length_cons, e1]
  omega
theorem putM_size {u d : ByteArray} {tos : List IA} {body : List ByteArray} (h : mailL u d tos body = true) : (putM u d tos body).length ≤ 800 := by
 obtain ⟨⟨ha, _⟩, hs, ⟨_, h4⟩, hbo⟩ := mailL_parts h
 have h1 := senderA_text hs
 have h2 := bodyOk_dots hbo
 have h3 := dots_len body
 have h5 := toLines_size tos (toText ha)
 unfold putM fromLine
 simp only [List.length_append, ← size_LL]
 have e1 : FROM.length = 5 := rfl
 have e2 : CRLF.length = 2 := rfl
 omega
theorem mailB_of {u d : ByteArray} {tos : List IA} {body : List ByteArray} (h : mailL u d tos body = true) : MailB u d tos body := by
 obtain ⟨⟨ha, _⟩, hs, ⟨_, h4⟩, hbo⟩ := mailL_parts h
 have h2 := bodyOk_parts hbo
 refine ⟨?_, ?_, ⟨by omega, fun x hx => ?_⟩, by omega, fun s hs => by have := h2.2 s hs; omega⟩
 ·rcases sender_cases hs with ⟨rfl, rfl⟩ | h1
  ·exact Nat.zero_le _
  ·have := addrL_size h1; omega
 ·rcases sender_cases hs with ⟨rfl, rfl⟩ | h1
  ·exact Nat.zero_le _
  ·have := addrL_size h1; omega
 ·have h1 : addrL x.f0 x.f1 = true := List.all_eq_true.1 ha x hx
  have := addrL_size h1
  omega
theorem rd_mid (P : List ByteArray) (q : ByteArray) (Q : List ByteArray) : rdOf ByteArray.empty (P ++ q :: Q) (P.length : Int) = q := by
 rw [rd_get _ P.length (by simp)]
 simp
end Go.Proofs.YthkibaldmjfmmaaGreatDoor.Q
namespace Go.Proofs.YthkibaldmjfmmaaGreatDoor.Q
open Go.RowKit Go.Proofs.YthkibaldmjfmmaaGreatDoorW.PrintWords Go.Proofs.YthkibaldmjfmmaaGreatDoorW.PrintLast Go.Proofs.YthkibaldmjfmmaaGreatDoorW.PrintMore
set_option linter.unusedVariables false
set_option linter.unusedSimpArgs false
def toB (x : IA) : ByteArray := BB (TO ++ LL (textA x.f0 x.f1))
theorem toB_size (x : IA) : (toB x).size = 3 + (textA x.f0 x.f1).size := by
 unfold toB
 rw [size_BB, List.length_append, ← size_LL]
 rfl
end Go.Proofs.YthkibaldmjfmmaaGreatDoor.Q
namespace Go.Proofs.YthkibaldmjfmmaaGreatDoor.Q
open Go.RowKit Go.Proofs.YthkibaldmjfmmaaGreatDoorW.PrintWords Go.Proofs.YthkibaldmjfmmaaGreatDoorW.PrintLast Go.Proofs.YthkibaldmjfmmaaGreatDoorW.PrintMore
set_option linter.unusedVariables false
set_option linter.unusedSimpArgs false
theorem cutWord (p t : List UInt8) (hp : (32 : UInt8) ∉ p) : strings_Cut.f (BB (p ++ 32 :: t)) (⟨#[32]⟩ : ByteArray) = (if (BB (p ++ 32 :: t)).size < 4294967281 then some (BB p, BB t, true) else none) := by
 unfold strings_Cut.f
 have h : Lib.cut (BB (p ++ 32 :: t)).data.toList (⟨#[32]⟩ : ByteArray).data.toList = (p, t, true) := by
  have : (BB (p ++ 32 :: t)).data.toList = p ++ 32 :: t := LL_BB _
  rw [this]
  exact cut_at hp
 rw [h]
section
variable {u d : ByteArray} {tos : List IA} {body : List ByteArray} (hm : mailL u d tos body = true)
include hm
theorem implGet_end (X : List ByteArray) : Ev (fun k => impl_MailGet.l0 k (BB (putM u d tos body)) (BB (dots body)) X (X.length : Int) (X.length : Int) u d tos) (u, d, tos, body, true) := by
 have hbo := (mailL_parts hm).2.2.2
 have hd := implDotGet_ev (BB (dots body))
 rw [dotGet_dots body hbo] at hd
 have hp := implMailPut_ev (mailB_of hm)
 unfold mailPut at hp
 rw [if_pos hm] at hp
 exact Ev.step (fun k => by rw [impl_MailGet.l0]) (Ev.neg (by omega) (Ev.bnd hd (Ev.pos rfl (Ev.bnd hp (Ev.pos rfl (Ev.ret _))))))
theorem implTos : ∀ (ys : List IA) (P : List ByteArray) (tos0 : List IA), tos0 ++ ys = tos → 1 ≤ P.length → P.length + ys.length ≤ 1000 → (∀ y ∈ ys, addrA y = true) →
 Ev (fun k => impl_MailGet.l0 k (BB (putM u d tos body)) (BB (dots body)) (P ++ ys.map toB) ((P ++ ys.map toB).length : Int) (P.length : Int) u d tos0) (u, d, tos, body, true) := by
 have hto4 := (mailL_parts hm).2.2.1.2
 intro ys
 induction ys with
 | nil =>
  intro P tos0 ht hP hl hy
  rw [List.append_nil] at ht
  subst ht
  rw [List.map_nil, List.append_nil]
  exact implGet_end hm P
 | cons y ys ih =>
  intro P tos0 ht hP hl hy
  have hl' := hl
  rw [List.length_cons] at hl'
  have hya : addrL y.f0 y.f1 = true := hy y (List.mem_cons_self ..)
  have htx := senderA_text (sender_of hya)
  rw [List.map_cons]
  have hl2 : tos0.length + (ys.length + 1) ≤ 4 := by
   have := congrArg List.length ht
   rw [List.length_append, List.length_cons] at this
   omega
  refine Ev.step (fun k => by rw [impl_MailGet.l0]) (Ev.pos (by simp; omega) (Ev.pos (by omega) (Ev.pos (by simp; omega) ?_)))
  rw [rd_mid]
  have hb : toB y = BB ([116, 111] ++ 32 :: LL (textA y.f0 y.f1)) := rfl
  have hsz := toB_size y
  have hcut : strings_Cut.f (toB y) (⟨#[32]⟩ : ByteArray) = some (BB [116, 111], BB (LL (textA y.f0 y.f1)), true) := by
   rw [hb] at hsz ⊢
   rw [cutWord _ _ (by decide), if_pos (by omega)]
  refine Ev.bnd (Ev.k hcut) ?_
  rw [show BB (LL (textA y.f0 y.f1)) = textA y.f0 y.f1 from BB_LL _]
  refine Ev.bnd (addrGet_text (sender_of hya)).2 (Ev.pos rfl (Ev.neg (by omega) (Ev.pos (by omega) ?_)))
  have := ih (P ++ [toB y]) (tos0 ++ [y]) (by rw [List.append_assoc]; exact ht) (by simp) (by simp only [List.length_append, List.length_cons, List.length_nil] at hl ⊢; omega) (fun z hz => hy z (List.mem_cons_of_mem _ hz))
  have e9 : (P ++ [toB y]) ++ ys.map toB = P ++ toB y :: ys.map toB := by rw [List.append_assoc]; rfl
  have e10 : (P ++ [toB y]).length = P.length + 1 := by rw [List.length_append]; rfl
  rw [e9, e10] at this
  rw [wsucc (by omega)]
  exact this
theorem implMailGet_put : Ev (fun k => impl_MailGet.f k (BB (putM u d tos body))) (u, d, tos, body, true) := by
 obtain ⟨⟨ha, _⟩, hs, ⟨h1, h4⟩, hbo⟩ := mailL_parts hm
 have hps := putM_size hm
 have hok := hdr_ok hs ha
 have hne : hdr u d tos ≠ [] := by unfold hdr; simp
 have e : putM u d tos body = joinL (hdr u d tos) ++ 13 :: 10 :: 13 :: 10 :: dots body := by
  rw [putM_hdr, joinE_eq _ hne, List.append_assoc]
  rfl
 have hcut : strings_Cut.f (BB (putM u d tos body)) (⟨#[13, 10, 13, 10]⟩ : ByteArray) = some (BB (joinL (hdr u d tos)), BB (dots body), true) := by
  unfold strings_Cut.f
  rw [if_pos (by rw [size_BB]; omega)]
  have h : Lib.cut (BB (putM u d tos body)).data.toList (⟨#[13, 10, 13, 10]⟩ : ByteArray).data.toList = (joinL (hdr u d tos), dots body, true) := by
   have : (BB (putM u d tos body)).data.toList = putM u d tos body := LL_BB _
   rw [this, e]
   exact cutCC (hdr u d tos) hne hok (dots body)
  rw [h]
 have hjl : (joinL (hdr u d tos)).length ≤ 800 := by
  have := congrArg List.length e
  rw [List.length_append] at this
  omega
 obtain ⟨c1, c2⟩ := splitJ (hdr u d tos) hne (fun h hh => (hok h hh).2)
 have hsp : splitL (BB (joinL (hdr u d tos))) ⟨#[13, 10]⟩ = (hdr u d tos).map BB := by
  rw [splitL_crlf, LL_BB, c1, c2 _ (Nat.le_refl _)]
 have hlenH : (hdr u d tos).length = tos.length + 1 := by unfold hdr; rw [List.length_cons, List.length_map]
 have hsplit : strings_Split.f (BB (joinL (hdr u d tos))) (⟨#[13, 10]⟩ : ByteArray) = some ((hdr u d tos).map BB) := by
  unfold strings_Split.f
  rw [hsp, if_pos ⟨by rw [size_BB]; omega, by decide, by rw [List.length_map]; omega⟩]
 unfold impl_MailGet.f
 refine Ev.neg (by rw [size_BB]; omega) (Ev.bnd (Ev.k hcut) (Ev.pos rfl (Ev.bnd (Ev.k hsplit) ?_)))
 have hm2 : (hdr u d tos).map BB = BB (FROM ++ LL (textA u d)) :: tos.map toB := by
  unfold hdr
  rw [List.map_cons, List.map_map]
  rfl
 rw [hm2]
 have ht := senderA_text hs
 have hb : BB (FROM ++ LL (textA u d)) = BB ([102, 114, 111, 109] ++ 32 :: LL (textA u d)) := rfl
 have hsz : (BB (FROM ++ LL (textA u d))).size = 5 + (textA u d).size := by
  rw [size_BB, List.length_append, ← size_LL]
  rfl
 have hc0 : strings_Cut.f (BB (FROM ++ LL (textA u d))) (⟨#[32]⟩ : ByteArray) = some (BB [102, 114, 111, 109], BB (LL (textA u d)), true) := by
  rw [hb] at hsz ⊢
  rw [cutWord _ _ (by decide), if_pos (by omega)]
 refine Ev.step (fun k => by rw [impl_MailGet.l0]) (Ev.pos (by simp <;> omega) (Ev.pos (by omega) (Ev.pos (by simp <;> omega) ?_)))
 rw [show rdOf ByteArray.empty (BB (FROM ++ LL (textA u d)) :: tos.map toB) 0 = BB (FROM ++ LL (textA u d)) from rd_mid [] _ _]
 refine Ev.bnd (Ev.k hc0) ?_
 rw [show BB (LL (textA u d)) = textA u d from BB_LL _]
 refine Ev.bnd (addrGet_text hs).2 (Ev.pos rfl (Ev.pos rfl ?_))
 have hlast := implTos hm tos [BB (FROM ++ LL (textA u d))] [] rfl (by simp) (by simp; omega) (fun y hy => List.all_eq_true.1 ha y hy)
 have hw1 : wrap64 (0 + 1) = (([BB (FROM ++ LL (textA u d))].length : Nat) : Int) := by rw [w64 (by omega) (by omega)]; rfl
 show Ev (fun k => impl_MailGet.l0 k (BB (putM u d tos body)) (BB (dots body)) (BB (FROM ++ LL (textA u d)) :: tos.map toB) ((BB (FROM ++ LL (textA u d)) :: tos.map toB).length : Int) (wrap64 (0 + 1)) u d []) _
 rw [hw1]
 exact hlast
end
end Go.Proofs.YthkibaldmjfmmaaGreatDoor.Q
namespace Go.Proofs.YthkibaldmjfmmaaGreatDoor.Q
open Go.RowKit Go.Proofs.YthkibaldmjfmmaaGreatDoorW.PrintWords Go.Proofs.YthkibaldmjfmmaaGreatDoorW.PrintLast Go.Proofs.YthkibaldmjfmmaaGreatDoorW.PrintMore
set_option linter.unusedVariables false
set_option linter.unusedSimpArgs false
theorem saAddrs_loop (l : List IA) (hm : l.length ≤ 1099511627776) : ∀ d i : Nat, i + d = l.length → Ev (fun k => laws_saAddrs.l0 k l l (i : Int)) true := by
 intro d
 induction d with
 | zero =>
  intro i hi
  refine Ev.step (fun k => by rw [laws_saAddrs.l0]) ?_
  exact Ev.neg (by omega) (Ev.ret _)
 | succ d ih =>
  intro i hi
  refine Ev.step (fun k => by rw [laws_saAddrs.l0]) ?_
  refine Ev.pos (by omega) (Ev.pos (by omega) (Ev.pos (by omega) (Ev.neg (by simp) ?_)))
  rw [wsucc (by omega)]
  exact ih (i + 1) (by omega)
theorem saMail_refl {u d : ByteArray} {tos : List IA} {body : List ByteArray} (h : MailB u d tos body) : Ev (fun k => laws_saMail.f k u d tos body u d tos body) true := by
 unfold laws_saMail.f
 obtain ⟨_, _, ⟨h2, _⟩, h4, _⟩ := h
 have e2 : Ev (fun k => laws_saAddrs.f k tos tos) true := by
  unfold laws_saAddrs.f
  exact Ev.pos rfl (saAddrs_loop tos (by omega) tos.length 0 (by omega))
 exact Ev.pos (by simp) (Ev.bnd e2 (Ev.pos rfl (Ev.bnd (saTexts_ev body body (by omega)) (Ev.eq (Ev.ret _) (by simp)))))
end Go.Proofs.YthkibaldmjfmmaaGreatDoor.Q
namespace Go.Proofs.YthkibaldmjfmmaaGreatDoor.Q
open Go.RowKit Go.Proofs.YthkibaldmjfmmaaGreatDoorW.PrintWords Go.Proofs.YthkibaldmjfmmaaGreatDoorW.PrintLast Go.Proofs.YthkibaldmjfmmaaGreatDoorW.PrintMore
set_option linter.unusedVariables false
theorem sizes_of {l : List ByteArray} {n : Nat} (h : l.all (fun s => decide (s.size ≤ n)) = true) : ∀ s ∈ l, s.size ≤ n := fun s hs => by
 rw [List.all_eq_true] at h
 exact of_decide_eq_true (h s hs)
theorem domain_dr {b : List Int} (hb : Buf b) {p : Int} (h0 : 0 ≤ p) (h1 : p ≤ 1000000) : Dr 1 p (fun k => spec_l20Domain.f k b p) (fun r => r.size ≤ 9) := by
 unfold spec_l20Domain.f
 obtain ⟨v, p', e, a, c, m⟩ := of_all (P := fun s => s.size ≤ 9) (sizes_of (by decide)) (of_dr hb [(⟨#[111, 110, 101, 46, 111, 114, 103]⟩ : ByteArray), (⟨#[116, 119, 111, 46, 111, 114, 103]⟩ : ByteArray), (⟨#[104, 117, 98, 46, 110, 101, 116]⟩ : ByteArray), (⟨#[120, 46, 99, 111, 109]⟩ : ByteArray), (⟨#[102, 97, 114, 46, 99, 111, 109]⟩ : ByteArray), (⟨#[111, 116, 104, 101, 114, 46, 99, 111, 109]⟩ : ByteArray), (⟨#[97, 46, 111, 110, 101, 46, 111, 114, 103]⟩ : ByteArray)] (by simp) (by simp) h0 (by omega))
 exact ⟨v, p', Ev.bnd e (Ev.ret _), a, c, m⟩
theorem addr_dr {b : List Int} (hb : Buf b) {p : Int} (h0 : 0 ≤ p) (h1 : p ≤ 100000) : ∃ u d p', Ev (fun k => spec_l20Addr.f k b p) (u, d, p') ∧ p ≤ p' ∧ p' ≤ p + 2 ∧ u.size ≤ 11 ∧ d.size ≤ 9 := by
 unfold spec_l20Addr.f
 obtain ⟨v, p1, e, a, c, m⟩ := of_all (P := fun s => s.size ≤ 11) (sizes_of (by decide)) (of_dr hb (p := p) [(⟨#[97]⟩ : ByteArray), (⟨#[98]⟩ : ByteArray), (⟨#[97, 110, 110]⟩ : ByteArray), (⟨#[98, 111, 98, 55]⟩ : ByteArray)] (by simp) (by simp) h0 (by omega))
 obtain ⟨w, p2, e2, a2, c2, m2⟩ := domain_dr hb (p := p1) (by omega) (by omega)
 exact ⟨v, w, p2, Ev.bnd e (Ev.bnd e2 (Ev.ret _)), by omega, by omega, m, m2⟩
theorem anyAddr_dr {b : List Int} (hb : Buf b) {p : Int} (h0 : 0 ≤ p) (h1 : p ≤ 100000) : ∃ u d p', Ev (fun k => spec_l20AnyAddr.f k b p) (u, d, p') ∧ p ≤ p' ∧ p' ≤ p + 4 ∧ u.size ≤ 11 ∧ d.size ≤ 9 := by
 unfold spec_l20AnyAddr.f
 obtain ⟨u, d, p1, e1, a1, c1, m1, n1⟩ := addr_dr hb h0 h1
 obtain ⟨t, p2, e2, a2, c2, _, _⟩ := pick_dr hb (p := p1) 10 (by omega) (by omega) (by omega)
 by_cases h : t = 0
 ·obtain ⟨v, p3, e3, a3, c3, m3⟩ := of_all (P := fun s => s.size ≤ 11) (sizes_of (by decide)) (of_dr hb (p := p2) [(⟨#[]⟩ : ByteArray), (⟨#[65]⟩ : ByteArray), (⟨#[116, 111, 111, 108, 111, 110, 103, 110, 97, 109, 101]⟩ : ByteArray), (⟨#[97, 64, 98]⟩ : ByteArray)] (by simp) (by simp) (by omega) (by omega))
  exact ⟨v, d, p3, Ev.bnd e1 (Ev.bnd e2 (Ev.pos h (Ev.bnd e3 (Ev.ret _)))), by omega, by omega, m3, n1⟩
 ·by_cases h' : t = 1
  ·obtain ⟨v, p3, e3, a3, c3, m3⟩ := of_all (P := fun s => s.size ≤ 9) (sizes_of (by decide)) (of_dr hb (p := p2) [(⟨#[]⟩ : ByteArray), (⟨#[97, 46, 46, 98]⟩ : ByteArray), (⟨#[46, 97]⟩ : ByteArray), (⟨#[97, 46, 98, 46, 99, 46, 100]⟩ : ByteArray), (⟨#[85, 112, 46, 111, 114, 103]⟩ : ByteArray)] (by simp) (by simp) (by omega) (by omega))
   exact ⟨u, v, p3, Ev.bnd e1 (Ev.bnd e2 (Ev.neg h (Ev.pos h' (Ev.bnd e3 (Ev.ret _))))), by omega, by omega, m1, m3⟩
  ·by_cases h2 : t = 2
   ·exact ⟨_, _, p2, Ev.bnd e1 (Ev.bnd e2 (Ev.neg h (Ev.neg h' (Ev.pos h2 (Ev.ret _))))), by omega, by omega, by decide, by decide⟩
   ·exact ⟨_, _, p2, Ev.bnd e1 (Ev.bnd e2 (Ev.neg h (Ev.neg h' (Ev.neg h2 (Ev.ret _))))), by omega, by omega, m1, n1⟩
end Go.Proofs.YthkibaldmjfmmaaGreatDoor.Q
namespace Go.Proofs.YthkibaldmjfmmaaGreatDoor.Q
open Go.RowKit Go.Proofs.YthkibaldmjfmmaaGreatDoorW.PrintWords Go.Proofs.YthkibaldmjfmmaaGreatDoorW.PrintLast Go.Proofs.YthkibaldmjfmmaaGreatDoorW.PrintMore
set_option linter.unusedVariables false
def MailD (u d : ByteArray) (tos : List IA) (body : List ByteArray) : Prop := u.size ≤ 11 ∧ d.size ≤ 9 ∧ (tos.length ≤ 5 ∧ ∀ x ∈ tos, x.f0.size ≤ 11 ∧ x.f1.size ≤ 9) ∧ body.length ≤ 13 ∧ ∀ s ∈ body, s.size ≤ 41
theorem MailD.b {u d : ByteArray} {tos : List IA} {body : List ByteArray} (h : MailD u d tos body) : MailB u d tos body := by
 obtain ⟨h0, h1, ⟨h2, h3⟩, h4, h5⟩ := h
 exact ⟨by omega, by omega, ⟨by omega, fun x hx => by have := h3 x hx; omega⟩, by omega, fun s hs => by have := h5 s hs; omega⟩
section
variable {b : List Int} (u d : ByteArray) (body : List ByteArray)
theorem mail_l1 (x4 : Int) (p : Int) (tos : List IA) (u' d' : ByteArray) (P : ByteArray × ByteArray × List IA × List ByteArray × Int → Prop) (ht : tos.length ≤ 1000)
 (h0 : Has (fun k => spec_l20Mail.l0 k (wrap64 (x4 - 1)) b p u d tos body) P) (h1 : Has (fun k => spec_l20Mail.l0 k (wrap64 (x4 - 1)) b p u d (tos ++ [(⟨u', d'⟩ : IA)]) body) P) :
 ∀ m i : Nat, i + m = tos.length → ∀ q : Bool, Has (fun k => spec_l20Mail.l1 k x4 q (i : Int) b p u d tos body u' d') P := by
 intro m
 induction m with
 | zero =>
  intro i hi q
  refine Has.step (fun k => by rw [spec_l20Mail.l1]) (Has.neg (by omega) ?_)
  by_cases hq : q = true
  ·exact Has.pos hq h0
  ·exact Has.neg hq (Has.pos (by omega) h1)
 | succ m ih =>
  intro i hi q
  refine Has.step (fun k => by rw [spec_l20Mail.l1]) (Has.pos (by omega) ?_)
  rw [wsucc (by omega)]
  by_cases hq : q = true
  ·exact Has.pos hq (ih (i + 1) (by omega) true)
  ·exact Has.neg hq (Has.pos (by omega) (ih (i + 1) (by omega) _))
variable (hb : Buf b)
include hb
theorem mail_l0 : ∀ (n : Nat) (p : Int) (tos : List IA), 0 ≤ p → p + 2 * n ≤ 100000 → tos.length + n ≤ 4 → (∀ x ∈ tos, x.f0.size ≤ 11 ∧ x.f1.size ≤ 9) →
 Has (fun k => spec_l20Mail.l0 k (n : Int) b p u d tos body) (fun v => v.1 = u ∧ v.2.1 = d ∧ v.2.2.2.1 = body ∧ (v.2.2.1.length ≤ 4 ∧ ∀ x ∈ v.2.2.1, x.f0.size ≤ 11 ∧ x.f1.size ≤ 9) ∧ p ≤ v.2.2.2.2 ∧ v.2.2.2.2 ≤ p + 2 * n ∧ (1 ≤ tos.length + n → 1 ≤ v.2.2.1.length)) := by
 intro n
 induction n with
 | zero =>
  intro p tos h0 h1 ht hts
  exact Has.step (fun k => by rw [spec_l20Mail.l0]) (Has.neg (by omega) (Has.ret ⟨rfl, rfl, rfl, ⟨by show tos.length ≤ 4; omega, hts⟩, by show p ≤ p; omega, by show p ≤ p + 2 * ((0 : Nat) : Int); omega, fun h => by show 1 ≤ tos.length; omega⟩))
 | succ n ih =>
  intro p tos h0 h1 ht hts
  obtain ⟨u', d', p2, e, a, c, m1, m2⟩ := addr_dr hb (p := p) h0 (by omega)
  refine Has.step (fun k => by rw [spec_l20Mail.l0]) (Has.pos (by omega) (Has.bnd e ?_))
  have hw : wrap64 (((n + 1 : Nat) : Int) - 1) = (n : Int) := by rw [w64 (by omega) (by omega)]; omega
  by_cases hn0 : tos.length = 0
  ·have e0 : tos = [] := List.eq_nil_of_length_eq_zero hn0
   subst e0
   refine Has.step (fun k => by rw [spec_l20Mail.l1]) (Has.neg (by simp) (Has.neg (by simp) (Has.pos (by simp) ?_)))
   rw [hw]
   refine (ih p2 _ (by omega) (by omega) (by simp <;> omega) (fun x hx => ?_)).imp (fun v hv => ?_)
   ·rw [List.nil_append, List.mem_singleton] at hx
    rw [hx]
    exact ⟨m1, m2⟩
   ·obtain ⟨v1, v2, v3, v4, v5, v6, v7⟩ := hv
    exact ⟨v1, v2, v3, v4, by omega, by omega, fun _ => v7 (by simp <;> omega)⟩
  ·have hK : ∀ tos2 : List IA, tos2.length + n ≤ 4 → 1 ≤ tos2.length → (∀ x ∈ tos2, x.f0.size ≤ 11 ∧ x.f1.size ≤ 9) → Has (fun k => spec_l20Mail.l0 k (wrap64 (((n + 1 : Nat) : Int) - 1)) b p2 u d tos2 body) (fun v => v.1 = u ∧ v.2.1 = d ∧ v.2.2.2.1 = body ∧ (v.2.2.1.length ≤ 4 ∧ ∀ x ∈ v.2.2.1, x.f0.size ≤ 11 ∧ x.f1.size ≤ 9) ∧ p ≤ v.2.2.2.2 ∧ v.2.2.2.2 ≤ p + 2 * ((n + 1 : Nat) : Int) ∧ (1 ≤ tos.length + (n + 1) → 1 ≤ v.2.2.1.length)) := by
    intro tos2 h2 h3 h4
    rw [hw]
    refine (ih p2 tos2 (by omega) (by omega) h2 h4).imp (fun v hv => ?_)
    obtain ⟨v1, v2, v3, v4, v5, v6, v7⟩ := hv
    exact ⟨v1, v2, v3, v4, by omega, by omega, fun _ => v7 (by omega)⟩
   refine mail_l1 u d body _ p2 tos u' d' _ (by omega) (hK tos (by omega) (by omega) hts) (hK _ (by simp <;> omega) (by simp) (fun x hx => ?_)) tos.length 0 (by omega) false
   rcases List.mem_append.1 hx with h | h
   ·exact hts x h
   ·rw [List.mem_singleton.1 h]; exact ⟨m1, m2⟩
theorem mail_j0 (p : Int) (h0 : 0 ≤ p) (h1 : p ≤ 10000) : ∃ tos p', Ev (fun k => spec_l20Mail.j0 k b p u d body) (u, d, tos, body, p') ∧ p ≤ p' ∧ p' ≤ p + 20 ∧ (tos.length ≤ 4 ∧ ∀ x ∈ tos, x.f0.size ≤ 11 ∧ x.f1.size ≤ 9) ∧ 1 ≤ tos.length := by
 obtain ⟨t, p2, e2, a2, c2, m0, m1⟩ := pick_dr hb (p := p) 4 h0 (by omega) (by omega)
 have m1 := m1 (by omega)
 obtain ⟨n, rfl⟩ := int_of_nat m0
 have hw : wrap64 (1 + (n : Int)) = ((n + 1 : Nat) : Int) := by rw [w64 (by omega) (by omega)]; omega
 obtain ⟨⟨u', d', tos, body', p3⟩, e3, v1, v2, v3, v4, v5, v6, v7⟩ := mail_l0 u d body hb (n + 1) p2 [] (by omega) (by omega) (by simp <;> omega) (fun x hx => by cases hx)
 simp only at v1 v2 v3 v4 v5 v6 v7
 subst v1 v2 v3
 refine ⟨tos, p3, ?_, by omega, by omega, v4, v7 (by simp)⟩
 refine Ev.step (fun k => by rw [spec_l20Mail.j0]) (Ev.bnd e2 ?_)
 show Ev (fun k => spec_l20Mail.l0 k (wrap64 (1 + (n : Int))) b p2 u' d' [] body') _
 rw [hw]
 exact e3
end
theorem mail_dr {b : List Int} (hb : Buf b) {p : Int} (h0 : 0 ≤ p) (h1 : p ≤ 1000) : ∃ u d tos body p', Ev (fun k => spec_l20Mail.f k b p) (u, d, tos, body, p') ∧ p ≤ p' ∧ p' ≤ p + 100 ∧ MailD u d tos body ∧ tos.length ≤ 4 ∧ 1 ≤ tos.length := by
 obtain ⟨u, d, p1, e1, a1, c1, m1, m2⟩ := addr_dr hb (p := p) h0 (by omega)
 obtain ⟨n, p2, e2, a2, c2, m3⟩ := one_dr hb (p := p1) [1, 4, 9] (by simp) (by simp) (by omega) (by omega)
 have hn : 1 ≤ n ∧ n ≤ 9 := by
  simp only [List.mem_cons, List.not_mem_nil, or_false] at m3
  omega
 obtain ⟨body, p3, e3, a3, c3, m4, m5⟩ := body_dr hb (p := p2) n (by omega) (by omega) (by omega) (by omega)
 obtain ⟨t, p4, e4, a4, c4, _, _⟩ := pick_dr hb (p := p3) 5 (by omega) (by omega) (by omega)
 have hbl : body.length ≤ 13 := by omega
 have hbs : ∀ s ∈ body, s.size ≤ 41 := fun s hs => by have := m5 s hs; omega
 unfold spec_l20Mail.f
 by_cases h : t = 0
 ·obtain ⟨tos, p5, e5, a5, c5, q1, q2⟩ := mail_j0 ⟨#[]⟩ ⟨#[]⟩ body hb p4 (by omega) (by omega)
  exact ⟨_, _, tos, body, p5, Ev.bnd e1 (Ev.bnd e2 (Ev.bnd e3 (Ev.bnd e4 (Ev.pos h e5)))), by omega, by omega, ⟨Nat.zero_le _, Nat.zero_le _, ⟨by omega, q1.2⟩, hbl, hbs⟩, q1.1, q2⟩
 ·obtain ⟨tos, p5, e5, a5, c5, q1, q2⟩ := mail_j0 u d body hb p4 (by omega) (by omega)
  exact ⟨_, _, tos, body, p5, Ev.bnd e1 (Ev.bnd e2 (Ev.bnd e3 (Ev.bnd e4 (Ev.neg h e5)))), by omega, by omega, ⟨m1, m2, ⟨by omega, q1.2⟩, hbl, hbs⟩, q1.1, q2⟩
theorem anyMail_dr {b : List Int} (hb : Buf b) {p : Int} (h0 : 0 ≤ p) (h1 : p ≤ 1000) : ∃ u d tos body p', Ev (fun k => spec_l20AnyMail.f k b p) (u, d, tos, body, p') ∧ p ≤ p' ∧ p' ≤ p + 2000 ∧ MailD u d tos body := by
 obtain ⟨u, d, tos, body, p1, e1, a1, c1, hm, ht4, ht1⟩ := mail_dr hb h0 h1
 obtain ⟨t, p2, e2, a2, c2, _, _⟩ := pick_dr hb (p := p1) 12 (by omega) (by omega) (by omega)
 obtain ⟨m1, m2, ⟨m3, m4⟩, m5, m6⟩ := hm
 unfold spec_l20AnyMail.f
 by_cases q0 : t = 0
 ·obtain ⟨y, p3, e3, a3, c3, n1, n2⟩ := anyBody_dr hb (p := p2) (by omega) (by omega)
  exact ⟨u, d, tos, y, p3, Ev.bnd e1 (Ev.bnd e2 (Ev.pos q0 (Ev.bnd e3 (Ev.ret _)))), by omega, by omega, m1, m2, ⟨m3, m4⟩, n1, n2⟩
 by_cases q1 : t = 1
 ·have hr := rdIA tos 0 (by omega)
  have hr : rd_T24 tos 0 = tos[0] := hr
  have hmem := m4 tos[0] (List.getElem_mem (by omega))
  refine ⟨u, d, tos ++ [(⟨tos[0].f0, tos[0].f1⟩ : IA)], body, p2, Ev.bnd e1 (Ev.bnd e2 (Ev.neg q0 (Ev.pos q1 (Ev.pos (by show (0 : Int) < (tos.length : Int); omega) (Ev.pos (by show tos.length < 4398046511104; omega) (Ev.eq (Ev.ret _) ?_)))))), by omega, by omega, m1, m2, ⟨by simp; omega, fun x hx => ?_⟩, m5, m6⟩
  ·simp only [hr]
  ·rcases List.mem_append.1 hx with h | h
   ·exact m4 x h
   ·rw [List.mem_singleton.1 h]; exact hmem
 by_cases q2 : t = 2
 ·exact ⟨u, d, [], body, p2, Ev.bnd e1 (Ev.bnd e2 (Ev.neg q0 (Ev.neg q1 (Ev.pos q2 (Ev.ret _))))), by omega, by omega, m1, m2, ⟨Nat.zero_le _, fun x hx => by cases hx⟩, m5, m6⟩
 by_cases q3 : t = 3
 ·obtain ⟨u', d', p3, e3, a3, c3, n1, n2⟩ := anyAddr_dr hb (p := p2) (by omega) (by omega)
  exact ⟨u', d', tos, body, p3, Ev.bnd e1 (Ev.bnd e2 (Ev.neg q0 (Ev.neg q1 (Ev.neg q2 (Ev.pos q3 (Ev.bnd e3 (Ev.ret _))))))), by omega, by omega, n1, n2, ⟨m3, m4⟩, m5, m6⟩
 ·exact ⟨u, d, tos, body, p2, Ev.bnd e1 (Ev.bnd e2 (Ev.neg q0 (Ev.neg q1 (Ev.neg q2 (Ev.neg q3 (Ev.ret _)))))), by omega, by omega, m1, m2, ⟨m3, m4⟩, m5, m6⟩
end Go.Proofs.YthkibaldmjfmmaaGreatDoor.Q
namespace Go.Proofs.YthkibaldmjfmmaaGreatDoor.Q
open Go.RowKit Go.Proofs.YthkibaldmjfmmaaGreatDoorW.PrintWords Go.Proofs.YthkibaldmjfmmaaGreatDoorW.PrintLast Go.Proofs.YthkibaldmjfmmaaGreatDoorW.PrintMore
set_option linter.unusedVariables false
theorem drawMailPut_ev (l : List Int) (hl : ∀ z ∈ l, (Lit.int .u8 z).wf = true) : ∃ u d tos body, Ev (fun k => spec_DrawMailPut.f k l) (u, d, tos, body) ∧ MailD u d tos body := by
 obtain ⟨b, hb, hb1, hb2⟩ := open_ok l hl
 obtain ⟨u, d, tos, body, p, e, _, _, h⟩ := anyMail_dr (b := b) ⟨hb1, hb2⟩ (p := 0) (by omega) (by omega)
 exact ⟨u, d, tos, body, by unfold spec_DrawMailPut.f; exact Ev.bnd (Ev.k hb) (Ev.bnd e (Ev.ret _)), h⟩
theorem putM_ne (u d : ByteArray) (tos : List IA) (body : List ByteArray) : BB (putM u d tos body) ≠ ⟨#[]⟩ := by
 intro e
 have := congrArg ByteArray.size e
 rw [size_BB] at this
 unfold putM fromLine at this
 simp only [List.length_append] at this
 have e1 : FROM.length = 5 := rfl
 have e0 : (⟨#[]⟩ : ByteArray).size = 0 := rfl
 omega
theorem mailPut_nil (u d : ByteArray) (tos : List IA) (body : List ByteArray) : decide (mailPut u d tos body = ⟨#[]⟩) = !mailL u d tos body := by
 unfold mailPut
 by_cases h : mailL u d tos body = true
 ·rw [if_pos h, h, decide_eq_false (putM_ne u d tos body)]; rfl
 ·rw [if_neg h]
  rw [Bool.not_eq_true] at h
  rw [h]; rfl
theorem fnMailPut_pure : ∀ (l0 : List Int), (l0.length ≤ maxLen ∧ ∀ z ∈ l0, (Lit.int .u8 z).wf = true) → ∃ k, laws_FnMailPut.f k l0 = some true := by
 intro l hl
 refine Ev.ex ?_
 unfold laws_FnMailPut.f
 by_cases h : (l.length : Int) > 1048576
 ·exact Ev.pos h (Ev.ret _)
 ·obtain ⟨u, d, tos, body, hx, hD⟩ := drawMailPut_ev l hl.2
  have hB := hD.b
  have e1 := implMailPut_ev hB
  have e2 := specMailPut_ev hB
  have e3 := implMailOk_ev hB
  have e4 : Ev (fun k => spec_MailOk.f k u d tos body) (mailL u d tos body) := Ev.fwd (l2Ok_ev hB)
  have hne : ((mailPut u d tos body).toList != ([] : List UInt8)) = mailL u d tos body := by
   rw [bne, toList_nil, mailPut_nil, Bool.not_not]
  refine Ev.neg h (Ev.bnd hx (Ev.bnd e1 (Ev.bnd e2 (Ev.pos rfl (Ev.bnd e3 (Ev.neg ?_ (Ev.bnd e3 (Ev.bnd e4 (Ev.neg (by simp) ?_)))))))))
  ·show ¬ (((mailPut u d tos body).toList != ([] : List UInt8)) != mailL u d tos body) = true
   rw [hne]
   simp
  ·show Ev (fun k => laws_FnMailPut.j0 k (mailPut u d tos body) ((mailPut u d tos body).toList == ([] : List UInt8)) u d tos body) true
   rw [toList_nil, mailPut_nil]
   refine Ev.step (fun k => by rw [laws_FnMailPut.j0]) ?_
   by_cases hm : mailL u d tos body = true
   ·have hp : mailPut u d tos body = BB (putM u d tos body) := by unfold mailPut; rw [if_pos hm]
    rw [hp]
    have hs := putM_size hm
    exact Ev.neg (by rw [hm]; simp) (Ev.bnd (implMailGet_put hm) (Ev.pos rfl (Ev.bnd (saMail_refl hB) (Ev.pos rfl (Ev.eq (Ev.ret _) (by rw [decide_eq_true_eq, size_BB]; omega))))))
   ·rw [Bool.not_eq_true] at hm
    refine Ev.pos (by rw [hm]; rfl) (Ev.bnd e2 (Ev.pos rfl (Ev.bnd e3 (Ev.eq (Ev.ret _) ?_))))
    rw [hne]
    simp
end Go.Proofs.YthkibaldmjfmmaaGreatDoor.Q
