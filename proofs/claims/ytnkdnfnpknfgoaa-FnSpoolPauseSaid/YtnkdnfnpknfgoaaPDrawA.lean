/- Plain laws: what is drawn from the bytes: a number, one of a list, a body, a bent text: it ends, and how great it is. -/
import Derived.Test.YtnkdnfnpknfgoaaPBase
import Derived.Test.YtnkdnfnpknfgoaaQ1
import Derived.Test.YtnkdnfnpknfgoaaQ4
namespace Go.Proofs.Ytnkdnfnpknfgoaa.Q
open Go.RowKit Go.Proofs.YtnkdnfnpknfgoaaW.PrintWords Go.Proofs.YtnkdnfnpknfgoaaW.PrintLast Go.Proofs.YtnkdnfnpknfgoaaW.PrintMore
set_option linter.unusedVariables false
set_option linter.unusedSimpArgs false

theorem xor_nonneg (x y : Int) (hx : 0 ≤ x) (hx1 : x < 1125899906842624) (hy : 0 ≤ y) (hy1 : y < 1125899906842624) :
    0 ≤ Go.bits .xor .i64 x y ∧ Go.bits .xor .i64 x y < 1125899906842624 := by
  obtain ⟨a, rfl⟩ := Int.eq_ofNat_of_zero_le hx
  obtain ⟨b, rfl⟩ := Int.eq_ofNat_of_zero_le hy
  have ha : a < 2 ^ 50 := by omega
  have hb : b < 2 ^ 50 := by omega
  have hp : 2 ^ 50 ≤ 2 ^ IntKind.i64.bits := Nat.pow_le_pow_right (by decide) (by decide)
  have ha' : a % 2 ^ IntKind.i64.bits = a := Nat.mod_eq_of_lt (Nat.lt_of_lt_of_le ha hp)
  have hb' : b % 2 ^ IntKind.i64.bits = b := Nat.mod_eq_of_lt (Nat.lt_of_lt_of_le hb hp)
  have hx := Nat.xor_lt_two_pow ha hb
  have e : Go.bits .xor .i64 (a : Int) (b : Int) = ((a ^^^ b : Nat) : Int) := by
    simp only [bits, BitVec.ofInt_natCast, BitVec.toNat_xor, BitVec.toNat_ofNat, ha', hb']
    rw [IntKind.wrap_i64]
    omega
  rw [e]
  omega

theorem rd_byte {b : List Int} (hb : ∀ x ∈ b, 0 ≤ x ∧ x ≤ 255) (i : Int) : 0 ≤ rd b i ∧ rd b i ≤ 255 := by
  unfold rd
  by_cases h : i.toNat < b.length
  · have := hb _ (List.getElem_mem h)
    simpa [List.getD_eq_getElem?_getD, h] using this
  · simp [List.getD_eq_getElem?_getD, h]

theorem tm {x n : Int} (hx : 0 ≤ x) (hn : 1 ≤ n) : 0 ≤ Int.tmod x n ∧ Int.tmod x n < n :=
  ⟨Int.tmod_nonneg _ hx, Int.tmod_lt_of_pos _ (by omega)⟩

theorem pick_ok (b : List Int) (hb : ∀ x ∈ b, 0 ≤ x ∧ x ≤ 255) (p n : Int) (k : Nat) (h0 : 0 ≤ p) (h1 : p ≤ 1099511627776) (hn : n ≤ 4294967296) (hl : b.length ≤ 4294967296) :
    ∃ r, spec_l20Rd_pick.f (k + 1) b p n = some (r, p + 1) ∧ 0 ≤ r ∧ (1 ≤ n → r < n) ∧ (n < 1 → r = 0) := by
  unfold spec_l20Rd_pick.f
  have e1 : wrap64 (p + 1) = p + 1 := w64 (by omega) (by omega)
  rw [e1]
  by_cases hn1 : n < 1
  · rw [if_pos hn1]
    simp only [spec_l20Rd_pick.j0]
    exact ⟨0, by simp, by omega, by omega, fun _ => rfl⟩
  · rw [if_neg hn1]
    by_cases hb0 : b.length = 0
    · have : ((b.length : Int) == 0) = true := by simp [hb0]
      rw [this]
      simp only [spec_l20Rd_pick.j0]
      exact ⟨0, by simp, by omega, by omega, fun _ => rfl⟩
    · have hf : ((b.length : Int) == 0) = false := by simpa using hb0
      rw [hf]
      simp only [spec_l20Rd_pick.j0]
      have e2 : wrap64 (p + 1 - 1) = p := by rw [w64 (by omega) (by omega)]; omega
      simp only [e2]
      rw [if_neg (by simp)]
      by_cases hp : p < (b.length : Int)
      · rw [if_pos hp, if_pos h0, if_neg (by omega)]
        have hr := rd_byte hb p
        rw [w64 (by omega) (by omega)]
        have ht := tm hr.1 (show 1 ≤ n by omega)
        exact ⟨_, rfl, ht.1, fun _ => ht.2, fun h => absurd h hn1⟩
      · rw [if_neg hp, if_neg (by omega)]
        have t1 := tm h0 (show (1 : Int) ≤ (b.length : Int) by omega)
        rw [if_pos t1.1, if_pos t1.2]
        have e3 : wrap64 (wrap64 (p * 7) + 3) = p * 7 + 3 := by rw [w64 (x := p * 7) (by omega) (by omega), w64 (by omega) (by omega)]
        rw [e3]
        have t2 := tm (show 0 ≤ p * 7 + 3 by omega) (show (1 : Int) ≤ (b.length : Int) by omega)
        rw [if_pos t2.1, if_pos t2.2, if_neg (by omega)]
        have ra := rd_byte hb (Int.tmod p (b.length : Int))
        have rb := rd_byte hb (Int.tmod (p * 7 + 3) (b.length : Int))
        generalize rd b (Int.tmod p (b.length : Int)) = a at *
        generalize rd b (Int.tmod (p * 7 + 3) (b.length : Int)) = c at *
        have hq0 : 0 ≤ Int.tdiv p (b.length : Int) := Int.tdiv_nonneg h0 (by omega)
        have hq1 : Int.tdiv p (b.length : Int) ≤ p := Int.tdiv_le_self _ h0
        generalize Int.tdiv p (b.length : Int) = q at *
        have e4 : wrap64 (wrap64 (wrap64 (wrap64 (wrap64 a * 131) + wrap64 (wrap64 c * 1117)) + wrap64 (p * 29)) + wrap64 (wrap64 q * 53)) = a * 131 + c * 1117 + p * 29 + q * 53 := by
          rw [w64 (x := a) (by omega) (by omega), w64 (x := c) (by omega) (by omega), w64 (x := q) (by omega) (by omega), w64 (x := a * 131) (by omega) (by omega), w64 (x := c * 1117) (by omega) (by omega), w64 (x := p * 29) (by omega) (by omega), w64 (x := q * 53) (by omega) (by omega), w64 (x := a * 131 + c * 1117) (by omega) (by omega), w64 (x := a * 131 + c * 1117 + p * 29) (by omega) (by omega), w64 (by omega) (by omega)]
        rw [e4]
        have hx0 : 0 ≤ a * 131 + c * 1117 + p * 29 + q * 53 := by omega
        have hx1 : a * 131 + c * 1117 + p * 29 + q * 53 < 1125899906842624 := by omega
        generalize a * 131 + c * 1117 + p * 29 + q * 53 = x at *
        have hd0 : 0 ≤ Int.tdiv x 64 := Int.tdiv_nonneg hx0 (by omega)
        have hd1 : Int.tdiv x 64 ≤ x := Int.tdiv_le_self _ hx0
        rw [w64 (x := Int.tdiv x 64) (by omega) (by omega)]
        have hz := xor_nonneg x (Int.tdiv x 64) hx0 hx1 hd0 (by omega)
        have ht := tm hz.1 (show 1 ≤ n by omega)
        exact ⟨_, rfl, ht.1, fun _ => ht.2, fun h => absurd h hn1⟩

theorem open_ok (l : List Int) (hb : ∀ x ∈ l, (Lit.int .u8 x).wf = true) : ∃ b, spec_l20Open.f l = some (b, 0) ∧ (∀ x ∈ b, 0 ≤ x ∧ x ≤ 255) ∧ b.length ≤ 2000 := by
  have hb' : ∀ x ∈ l, 0 ≤ x ∧ x ≤ 255 := by
    intro x hx
    have := hb x hx
    exact wf_u8 this
  unfold spec_l20Open.f
  by_cases h : (l.length : Int) > 2000
  · rw [if_pos h, if_pos (by omega)]
    exact ⟨_, rfl, fun x hx => hb' x (List.mem_of_mem_take hx), by rw [List.length_take]; omega⟩
  · rw [if_neg h]
    exact ⟨_, rfl, hb', by omega⟩


/-- The bytes that are drawn from. -/
def Buf (b : List Int) : Prop := (∀ x ∈ b, 0 ≤ x ∧ x ≤ 255) ∧ b.length ≤ 2000
theorem pick_same (b : List Int) (p n : Int) (k : Nat) : spec_l20Rd_pick.f (k + 1) b p n = spec_l20Rd_pick.f 1 b p n := rfl
/-- A draw at a place ends, at most n places on, with a value of the kind. -/
def Dr {α : Type} (n : Int) (p : Int) (f : Nat → Option (α × Int)) (P : α → Prop) : Prop := ∃ v p', Ev f (v, p') ∧ p ≤ p' ∧ p' ≤ p + n ∧ P v
theorem pick_dr {b : List Int} (hb : Buf b) {p : Int} (n : Int) (h0 : 0 ≤ p) (h1 : p ≤ 1000000000) (hn : n ≤ 4294967296) : Dr 1 p (fun k => spec_l20Rd_pick.f k b p n) (fun r => 0 ≤ r ∧ (1 ≤ n → r < n)) := by
  obtain ⟨r, hr, hr0, hr1, _⟩ := pick_ok b hb.1 p n 0 h0 (by omega) hn (by have := hb.2; omega)
  refine ⟨r, p + 1, ⟨1, fun k hk => ?_⟩, by omega, by omega, hr0, hr1⟩
  obtain ⟨m, rfl⟩ : ∃ m, k = m + 1 := ⟨k - 1, by omega⟩
  show spec_l20Rd_pick.f (m + 1) b p n = _
  rw [pick_same]
  exact hr
theorem one_dr {b : List Int} (hb : Buf b) {p : Int} (l : List Int) (hl : l ≠ []) (hm : l.length ≤ 4294967296) (h0 : 0 ≤ p) (h1 : p ≤ 1000000000) : Dr 1 p (fun k => spec_l20Rd_one.f k b p l) (fun r => r ∈ l) := by
  obtain ⟨r, p', hr, hp, hp', hr0, hr1⟩ := pick_dr hb (l.length : Int) h0 h1 (by omega)
  have hpos := List.length_pos_iff.2 hl
  have hr1 := hr1 (by omega)
  refine ⟨rd l r, p', ?_, hp, hp', ?_⟩
  · unfold spec_l20Rd_one.f
    exact Ev.bnd hr (Ev.pos hr0 (Ev.pos hr1 (Ev.ret _)))
  · unfold rd
    rw [List.getD_eq_getElem?_getD, List.getElem?_eq_getElem (by omega)]
    exact List.getElem_mem _
theorem of_dr {b : List Int} (hb : Buf b) {p : Int} (l : List ByteArray) (hl : l ≠ []) (hm : l.length ≤ 4294967296) (h0 : 0 ≤ p) (h1 : p ≤ 1000000000) : Dr 1 p (fun k => spec_l20Rd_of.f k b p l) (fun r => r ∈ l) := by
  obtain ⟨r, p', hr, hp, hp', hr0, hr1⟩ := pick_dr hb (l.length : Int) h0 h1 (by omega)
  have hpos := List.length_pos_iff.2 hl
  have hr1 := hr1 (by omega)
  refine ⟨rdOf ByteArray.empty l r, p', ?_, hp, hp', ?_⟩
  · unfold spec_l20Rd_of.f
    exact Ev.bnd hr (Ev.pos hr0 (Ev.pos hr1 (Ev.ret _)))
  · unfold rdOf
    rw [List.getD_eq_getElem?_getD, List.getElem?_eq_getElem (by omega)]
    exact List.getElem_mem _
theorem of_all {l : List ByteArray} {P : ByteArray → Prop} (h : ∀ s ∈ l, P s) {n p : Int} {f : Nat → Option (ByteArray × Int)} (d : Dr n p f (fun r => r ∈ l)) : Dr n p f P := by
  obtain ⟨v, p', e, a, c, m⟩ := d
  exact ⟨v, p', e, a, c, h v m⟩

end Go.Proofs.Ytnkdnfnpknfgoaa.Q
