/- Plain lemmas on rounds, numbers, bytes and lists, for the plain laws. -/
import Derived.Test.YtnkdnfnpknfgoaaQ0
import Derived.Lib.Index
import Derived.Lib.IndexMore
import Derived.Lib.Strings
namespace Go.Proofs.Ytnkdnfnpknfgoaa.Q
open Go.RowKit Go.Proofs.YtnkdnfnpknfgoaaW.PrintWords Go.Proofs.YtnkdnfnpknfgoaaW.PrintLast Go.Proofs.YtnkdnfnpknfgoaaW.PrintMore
set_option linter.unusedVariables false
set_option linter.unusedSimpArgs false

section rounds
variable {α β : Type} {g g' f : Nat → Option α} {r : α}
theorem Ev.pos {c : Prop} [Decidable c] (h : c) (e : Ev g r) : Ev (fun k => if c then g k else g' k) r := by
  obtain ⟨K, hK⟩ := e
  exact ⟨K, fun k hk => (if_pos h).trans (hK k hk)⟩
theorem Ev.neg {c : Prop} [Decidable c] (h : ¬ c) (e : Ev g' r) : Ev (fun k => if c then g k else g' k) r := by
  obtain ⟨K, hK⟩ := e
  exact ⟨K, fun k hk => (if_neg h).trans (hK k hk)⟩
theorem Ev.ret (r : α) : Ev (fun _ => some r) r := ⟨0, fun _ _ => rfl⟩
theorem Ev.k {x : Option α} (h : x = some r) : Ev (fun _ => x) r := ⟨0, fun _ _ => h⟩
theorem Ev.bnd {h : Nat → Option α} {F : Nat → α → Option β} {a : α} {r : β} (e : Ev h a) (k : Ev (fun n => F n a) r) : Ev (fun n => (h n).bind (F n)) r := Ev.bind e k
theorem Ev.eq {r' : α} (e : Ev g r) (h : r = r') : Ev g r' := h ▸ e
theorem Ev.uniq {r r' : α} (h : Ev g r) (h' : Ev g r') : r = r' := by
  obtain ⟨K, hK⟩ := h
  obtain ⟨K', hK'⟩ := h'
  have h1 := hK (K + K') (by omega)
  rw [hK' (K + K') (by omega)] at h1
  exact (Option.some.inj h1).symm
theorem Ev.ex (h : Ev g r) : ∃ k, g k = some r := by
  obtain ⟨K, hK⟩ := h
  exact ⟨K, hK K (Nat.le_refl _)⟩
end rounds

theorem w64 {x : Int} (h0 : -9223372036854775808 ≤ x) (h1 : x ≤ 9223372036854775807) : wrap64 x = x := by unfold wrap64; omega
theorem wsucc {i : Nat} (h : i ≤ 9223372036854775806) : wrap64 ((i : Int) + 1) = ((i + 1 : Nat) : Int) := by rw [w64 (by omega) (by omega)]; omega
theorem wf_u8 {x : Int} (h : (Lit.int .u8 x).wf = true) : 0 ≤ x ∧ x ≤ 255 := by
  simpa [Lit.wf, IntKind.min, IntKind.max, IntKind.signed, IntKind.bits] using h
theorem wf_i64 {x : Int} (h : (Lit.int .i64 x).wf = true) : -9223372036854775808 ≤ x ∧ x ≤ 9223372036854775807 := by
  simpa [Lit.wf, IntKind.min, IntKind.max, IntKind.signed, IntKind.bits] using h

/-! bytes -/
abbrev LL (s : ByteArray) : List UInt8 := s.data.toList
abbrev BB (l : List UInt8) : ByteArray := ⟨l.toArray⟩
theorem BB_LL (s : ByteArray) : BB (LL s) = s := by cases s; simp
theorem LL_BB (l : List UInt8) : LL (BB l) = l := by simp
theorem LL_inj {a b : ByteArray} (h : LL a = LL b) : a = b := by rw [← BB_LL a, ← BB_LL b, h]
theorem toList_LL (s : ByteArray) : s.toList = LL s := Lib.toList_data s
theorem toList_eq {a b : ByteArray} : a.toList = b.toList ↔ a = b := by
  rw [toList_LL, toList_LL]
  exact ⟨LL_inj, fun h => by rw [h]⟩
theorem toList_beq (a b : ByteArray) : (a.toList == b.toList) = decide (a = b) := by
  by_cases h : a = b
  · subst h; simp
  · rw [decide_eq_false h, beq_eq_false_iff_ne]
    exact fun e => h (toList_eq.1 e)
theorem toList_bne (a b : ByteArray) : (a.toList != b.toList) = !decide (a = b) := by rw [bne, toList_beq]
theorem toList_BB {a : ByteArray} {l : List UInt8} : a.toList = l ↔ a = BB l := by
  rw [toList_LL]
  constructor
  · intro h; rw [← BB_LL a, h]
  · intro h; rw [h, LL_BB]
theorem size_LL (s : ByteArray) : s.size = (LL s).length := Lib.size_eq s
theorem size_BB (l : List UInt8) : (BB l).size = l.length := by rw [size_LL, LL_BB]
theorem LL_append (a b : ByteArray) : LL (a ++ b) = LL a ++ LL b := by unfold LL; rw [ByteArray.data_append, Array.toList_append]
theorem LL_extract (s : ByteArray) (a b : Nat) : LL (s.extract a b) = ((LL s).drop a).take (b - a) := Lib.extract_data s a b
theorem extract_BB (s : ByteArray) (a b : Nat) : s.extract a b = BB (((LL s).drop a).take (b - a)) := LL_inj (by rw [LL_extract, LL_BB])
theorem size_append (a b : ByteArray) : (a ++ b).size = a.size + b.size := by rw [size_LL, LL_append, List.length_append, ← size_LL, ← size_LL]
theorem size_extract (s : ByteArray) (a b : Nat) (h : a ≤ b) (h2 : b ≤ s.size) : (s.extract a b).size = b - a := by
  rw [size_LL, LL_extract, List.length_take, List.length_drop, ← size_LL]; omega
theorem extract_all (s : ByteArray) : s.extract 0 s.size = s := LL_inj (by rw [LL_extract, size_LL, List.drop_zero, Nat.sub_zero, List.take_length])
theorem size_zero {s : ByteArray} (h : s.size = 0) : s = ⟨#[]⟩ := LL_inj (by rw [size_LL] at h; exact List.eq_nil_of_length_eq_zero h)

theorem bt_get (s : ByteArray) (i : Nat) (h : i < s.size) : ∃ c, (LL s)[i]? = some c ∧ bt s (i : Int) = (c.toNat : Int) := by
  have hl : i < (LL s).length := by rw [← size_LL]; exact h
  refine ⟨(LL s)[i], List.getElem?_eq_getElem hl, ?_⟩
  unfold bt
  simp only [Int.toNat_natCast]
  rw [dif_pos h]
  rfl
theorem drop_bt (s : ByteArray) (i : Nat) (h : i < s.size) : ∃ c, (LL s).drop i = c :: (LL s).drop (i + 1) ∧ bt s (i : Int) = (c.toNat : Int) := by
  obtain ⟨c, hc, hb⟩ := bt_get s i h
  have hl : i < (LL s).length := by rw [← size_LL]; exact h
  refine ⟨c, ?_, hb⟩
  rw [List.drop_eq_getElem_cons hl]
  rw [List.getElem?_eq_getElem hl] at hc
  rw [Option.some.inj hc]
theorem u8_nat (c : UInt8) : c.toNat ≤ 255 := by have := c.toNat_lt; omega
theorem u8_ext {c d : UInt8} (h : c.toNat = d.toNat) : c = d := UInt8.toNat.inj h

/-! lists of texts -/
theorem rd_get (l : List ByteArray) (i : Nat) (h : i < l.length) : rdOf ByteArray.empty l (i : Int) = l[i] := by
  unfold rdOf
  rw [Int.toNat_natCast, List.getD_eq_getElem?_getD, List.getElem?_eq_getElem h]
  rfl
theorem drop_rd (l : List ByteArray) (i : Nat) (h : i < l.length) : l.drop i = rdOf ByteArray.empty l (i : Int) :: l.drop (i + 1) := by
  rw [rd_get l i h, List.drop_eq_getElem_cons h]
theorem mem_rd (l : List ByteArray) (i : Nat) (h : i < l.length) : rdOf ByteArray.empty l (i : Int) ∈ l := by
  rw [rd_get l i h]
  exact List.getElem_mem h
theorem int_of_nat {i : Int} (h : 0 ≤ i) : ∃ n : Nat, i = (n : Int) := ⟨i.toNat, by omega⟩

/-! a text's lines: those that end with CR LF, and what is left -/
def CRLF : List UInt8 := [13, 10]
def linesOf (l : List UInt8) : List (List UInt8) × List UInt8 :=
  if h : 0 ≤ Lib.index l CRLF then
    ((l.take (Lib.index l CRLF).toNat) :: (linesOf (l.drop ((Lib.index l CRLF).toNat + 2))).1, (linesOf (l.drop ((Lib.index l CRLF).toNat + 2))).2)
  else ([], l)
termination_by l.length
decreasing_by
  all_goals
    have := Lib.index_room l CRLF h
    have e : CRLF.length = 2 := rfl
    rw [e] at this
    rw [List.length_drop]
    omega
theorem linesOf_none {l : List UInt8} (h : Lib.index l CRLF < 0) : linesOf l = ([], l) := by
  rw [linesOf, dif_neg (by omega)]
theorem linesOf_some {l : List UInt8} {i : Nat} (h : Lib.index l CRLF = i) : linesOf l = (l.take i :: (linesOf (l.drop (i + 2))).1, (linesOf (l.drop (i + 2))).2) := by
  rw [linesOf, dif_pos (by omega), h, Int.toNat_natCast]

end Go.Proofs.Ytnkdnfnpknfgoaa.Q
