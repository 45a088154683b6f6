/- Of a text of ours what this claim needs. -/
import Derived.Test.YtpeefjfklklhdaaDoorZzFnHopsPBase
import Derived.Test.YtpeefjfklklhdaaDoorZzFnHopsQ2
import Derived.Test.YtpeefjfklklhdaaDoorZzFnHopsQ38
import Derived.Test.YtpeefjfklklhdaaDoorZzFnHopsQ0
import Derived.Test.YtpeefjfklklhdaaDoorZzFnHopsQ3
import Derived.Test.YtpeefjfklklhdaaDoorZzFnHopsQ5
import Derived.Test.YtpeefjfklklhdaaDoorZzFnHopsHSplit
import Derived.Test.YtpeefjfklklhdaaDoorZzFnHopsQ16
namespace Go.Proofs.YtpeefjfklklhdaaDoor.Q
open Go.RowKit Go.Proofs.YtpeefjfklklhdaaDoorW.PrintWords Go.Proofs.YtpeefjfklklhdaaDoorW.PrintLast Go.Proofs.YtpeefjfklklhdaaDoorW.PrintMore
set_option linter.unusedVariables false
set_option linter.unusedSimpArgs false
theorem xor_nonneg (x y : Int) (hx : 0 ≤ x) (hx1 : x < 1125899906842624) (hy : 0 ≤ y) (hy1 : y < 1125899906842624) :
    0 ≤ Go.bits .xor .i64 x y ∧ Go.bits .xor .i64 x y < 1125899906842624 := by
  obtain ⟨a, rfl⟩ := Int.eq_ofNat_of_zero_le hx
  obtain ⟨b, rfl⟩ := Int.eq_ofNat_of_zero_le hy
  have ha : a < 2 ^ 50 := by omega
  have hb : b < 2 ^ 50 := by omega
  have hp : 2 ^ 50 ≤ 2 ^ IntKind.i64.bits := Nat.pow_le_pow_right (by decide) (by decide)
  have ha' : a % 2 ^ IntKind.i64.bits = a := Nat.mod_eq_of_lt (Nat.lt_of_lt_of_le ha hp)
  have hb' : b % 2 ^ IntKind.i64.bits = b := Nat.mod_eq_of_lt (Nat.lt_of_lt_of_le hb hp)
  have hx := Nat.xor_lt_two_pow ha hb
  have e : Go.bits .xor .i64 (a : Int) (b : Int) = ((a ^^^ b : Nat) : Int) := by
    simp only [bits, BitVec.ofInt_natCast, BitVec.toNat_xor, BitVec.toNat_ofNat, ha', hb']
    rw [IntKind.wrap_i64]
    omega
  rw [e]
  omega
theorem rd_byte {b : List Int} (hb : ∀ x ∈ b, 0 ≤ x ∧ x ≤ 255) (i : Int) : 0 ≤ rd b i ∧ rd b i ≤ 255 := by
  unfold rd
  by_cases h : i.toNat < b.length
  · have := hb _ (List.getElem_mem h)
    simpa [List.getD_eq_getElem?_getD, h] using this
  · simp [List.getD_eq_getElem?_getD, h]
theorem tm {x n : Int} (hx : 0 ≤ x) (hn : 1 ≤ n) : 0 ≤ Int.tmod x n ∧ Int.tmod x n < n :=
  ⟨Int.tmod_nonneg _ hx, Int.tmod_lt_of_pos _ (by omega)⟩
theorem pick_ok (b : List Int) (hb : ∀ x ∈ b, 0 ≤ x ∧ x ≤ 255) (p n : Int) (k : Nat) (h0 : 0 ≤ p) (h1 : p ≤ 1099511627776) (hn : n ≤ 4294967296) (hl : b.length ≤ 4294967296) :
    ∃ r, spec_l20Rd_pick.f (k + 1) b p n = some (r, p + 1) ∧ 0 ≤ r ∧ (1 ≤ n → r < n) ∧ (n < 1 → r = 0) := by
  unfold spec_l20Rd_pick.f
  have e1 : wrap64 (p + 1) = p + 1 := w64 (by omega) (by omega)
  rw [e1]
  by_cases hn1 : n < 1
  · rw [if_pos hn1]
    simp only [spec_l20Rd_pick.j0]
    exact ⟨0, by simp, by omega, by omega, fun _ => rfl⟩
  · rw [if_neg hn1]
    by_cases hb0 : b.length = 0
    · have : ((b.length : Int) == 0) = true := by simp [hb0]
      rw [this]
      simp only [spec_l20Rd_pick.j0]
      exact ⟨0, by simp, by omega, by omega, fun _ => rfl⟩
    · have hf : ((b.length : Int) == 0) = false := by simpa using hb0
      rw [hf]
      simp only [spec_l20Rd_pick.j0]
      have e2 : wrap64 (p + 1 - 1) = p := by rw [w64 (by omega) (by omega)]; omega
      simp only [e2]
      rw [if_neg (by simp)]
      by_cases hp : p < (b.length : Int)
      · rw [if_pos hp, if_pos h0, if_neg (by omega)]
        have hr := rd_byte hb p
        rw [w64 (by omega) (by omega)]
        have ht := tm hr.1 (show 1 ≤ n by omega)
        exact ⟨_, rfl, ht.1, fun _ => ht.2, fun h => absurd h hn1⟩
      · rw [if_neg hp, if_neg (by omega)]
        have t1 := tm h0 (show (1 : Int) ≤ (b.length : Int) by omega)
        rw [if_pos t1.1, if_pos t1.2]
        have e3 : wrap64 (wrap64 (p * 7) + 3) = p * 7 + 3 := by rw [w64 (x := p * 7) (by omega) (by omega), w64 (by omega) (by omega)]
        rw [e3]
        have t2 := tm (show 0 ≤ p * 7 + 3 by omega) (show (1 : Int) ≤ (b.length : Int) by omega)
        rw [if_pos t2.1, if_pos t2.2, if_neg (by omega)]
        have ra := rd_byte hb (Int.tmod p (b.length : Int))
        have rb := rd_byte hb (Int.tmod (p * 7 + 3) (b.length : Int))
        generalize rd b (Int.tmod p (b.length : Int)) = a at *
        generalize rd b (Int.tmod (p * 7 + 3) (b.length : Int)) = c at *
        have hq0 : 0 ≤ Int.tdiv p (b.length : Int) := Int.tdiv_nonneg h0 (by omega)
        have hq1 : Int.tdiv p (b.length : Int) ≤ p := Int.tdiv_le_self _ h0
        generalize Int.tdiv p (b.length : Int) = q at *
        have e4 : wrap64 (wrap64 (wrap64 (wrap64 (wrap64 a * 131) + wrap64 (wrap64 c * 1117)) + wrap64 (p * 29)) + wrap64 (wrap64 q * 53)) = a * 131 + c * 1117 + p * 29 + q * 53 := by
          rw [w64 (x := a) (by omega) (by omega), w64 (x := c) (by omega) (by omega), w64 (x := q) (by omega) (by omega), w64 (x := a * 131) (by omega) (by omega), w64 (x := c * 1117) (by omega) (by omega), w64 (x := p * 29) (by omega) (by omega), w64 (x := q * 53) (by omega) (by omega), w64 (x := a * 131 + c * 1117) (by omega) (by omega), w64 (x := a * 131 + c * 1117 + p * 29) (by omega) (by omega), w64 (by omega) (by omega)]
        rw [e4]
        have hx0 : 0 ≤ a * 131 + c * 1117 + p * 29 + q * 53 := by omega
        have hx1 : a * 131 + c * 1117 + p * 29 + q * 53 < 1125899906842624 := by omega
        generalize a * 131 + c * 1117 + p * 29 + q * 53 = x at *
        have hd0 : 0 ≤ Int.tdiv x 64 := Int.tdiv_nonneg hx0 (by omega)
        have hd1 : Int.tdiv x 64 ≤ x := Int.tdiv_le_self _ hx0
        rw [w64 (x := Int.tdiv x 64) (by omega) (by omega)]
        have hz := xor_nonneg x (Int.tdiv x 64) hx0 hx1 hd0 (by omega)
        have ht := tm hz.1 (show 1 ≤ n by omega)
        exact ⟨_, rfl, ht.1, fun _ => ht.2, fun h => absurd h hn1⟩
theorem open_ok (l : List Int) (hb : ∀ x ∈ l, (Lit.int .u8 x).wf = true) : ∃ b, spec_l20Open.f l = some (b, 0) ∧ (∀ x ∈ b, 0 ≤ x ∧ x ≤ 255) ∧ b.length ≤ 2000 := by
  have hb' : ∀ x ∈ l, 0 ≤ x ∧ x ≤ 255 := by
    intro x hx
    have := hb x hx
    exact wf_u8 this
  unfold spec_l20Open.f
  by_cases h : (l.length : Int) > 2000
  · rw [if_pos h, if_pos (by omega)]
    exact ⟨_, rfl, fun x hx => hb' x (List.mem_of_mem_take hx), by rw [List.length_take]; omega⟩
  · rw [if_neg h]
    exact ⟨_, rfl, hb', by omega⟩
def Buf (b : List Int) : Prop := (∀ x ∈ b, 0 ≤ x ∧ x ≤ 255) ∧ b.length ≤ 2000
theorem pick_same (b : List Int) (p n : Int) (k : Nat) : spec_l20Rd_pick.f (k + 1) b p n = spec_l20Rd_pick.f 1 b p n := rfl
def Dr {α : Type} (n : Int) (p : Int) (f : Nat → Option (α × Int)) (P : α → Prop) : Prop := ∃ v p', Ev f (v, p') ∧ p ≤ p' ∧ p' ≤ p + n ∧ P v
theorem pick_dr {b : List Int} (hb : Buf b) {p : Int} (n : Int) (h0 : 0 ≤ p) (h1 : p ≤ 1000000000) (hn : n ≤ 4294967296) : Dr 1 p (fun k => spec_l20Rd_pick.f k b p n) (fun r => 0 ≤ r ∧ (1 ≤ n → r < n)) := by
  obtain ⟨r, hr, hr0, hr1, _⟩ := pick_ok b hb.1 p n 0 h0 (by omega) hn (by have := hb.2; omega)
  refine ⟨r, p + 1, ⟨1, fun k hk => ?_⟩, by omega, by omega, hr0, hr1⟩
  obtain ⟨m, rfl⟩ : ∃ m, k = m + 1 := ⟨k - 1, by omega⟩
  show spec_l20Rd_pick.f (m + 1) b p n = _
  rw [pick_same]
  exact hr
theorem one_dr {b : List Int} (hb : Buf b) {p : Int} (l : List Int) (hl : l ≠ []) (hm : l.length ≤ 4294967296) (h0 : 0 ≤ p) (h1 : p ≤ 1000000000) : Dr 1 p (fun k => spec_l20Rd_one.f k b p l) (fun r => r ∈ l) := by
  obtain ⟨r, p', hr, hp, hp', hr0, hr1⟩ := pick_dr hb (l.length : Int) h0 h1 (by omega)
  have hpos := List.length_pos_iff.2 hl
  have hr1 := hr1 (by omega)
  refine ⟨rd l r, p', ?_, hp, hp', ?_⟩
  · unfold spec_l20Rd_one.f
    exact Ev.bnd hr (Ev.pos hr0 (Ev.pos hr1 (Ev.ret _)))
  · unfold rd
    rw [List.getD_eq_getElem?_getD, List.getElem?_eq_getElem (by omega)]
    exact List.getElem_mem _
theorem of_dr {b : List Int} (hb : Buf b) {p : Int} (l : List ByteArray) (hl : l ≠ []) (hm : l.length ≤ 4294967296) (h0 : 0 ≤ p) (h1 : p ≤ 1000000000) : Dr 1 p (fun k => spec_l20Rd_of.f k b p l) (fun r => r ∈ l) := by
  obtain ⟨r, p', hr, hp, hp', hr0, hr1⟩ := pick_dr hb (l.length : Int) h0 h1 (by omega)
  have hpos := List.length_pos_iff.2 hl
  have hr1 := hr1 (by omega)
  refine ⟨rdOf ByteArray.empty l r, p', ?_, hp, hp', ?_⟩
  · unfold spec_l20Rd_of.f
    exact Ev.bnd hr (Ev.pos hr0 (Ev.pos hr1 (Ev.ret _)))
  · unfold rdOf
    rw [List.getD_eq_getElem?_getD, List.getElem?_eq_getElem (by omega)]
    exact List.getElem_mem _
theorem of_all {l : List ByteArray} {P : ByteArray → Prop} (h : ∀ s ∈ l, P s) {n p : Int} {f : Nat → Option (ByteArray × Int)} (d : Dr n p f (fun r => r ∈ l)) : Dr n p f P := by
  obtain ⟨v, p', e, a, c, m⟩ := d
  exact ⟨v, p', e, a, c, h v m⟩
theorem line_dr {b : List Int} (hb : Buf b) {p : Int} (h0 : 0 ≤ p) (h1 : p ≤ 1000000000) : Dr 1 p (fun k => spec_l20Line.f k b p) (fun r => r.size ≤ 40) := by
  unfold spec_l20Line.f
  obtain ⟨v, p', e, a, c, m⟩ := of_all (P := fun s => s.size ≤ 40) (by intro s hs; simp only [List.mem_cons, List.not_mem_nil, or_false] at hs; rcases hs with rfl | rfl | rfl | rfl | rfl | rfl | rfl | rfl | rfl | rfl | rfl | rfl <;> decide) (of_dr hb [(⟨#[104, 101, 108, 108, 111]⟩ : ByteArray), (⟨#[]⟩ : ByteArray), (⟨#[46]⟩ : ByteArray), (⟨#[46, 46]⟩ : ByteArray), (⟨#[46, 100, 111, 116]⟩ : ByteArray), (⟨#[97, 32, 108, 111, 110, 103, 101, 114, 32, 108, 105, 110, 101, 32, 111, 102, 32, 116, 101, 120, 116]⟩ : ByteArray), (⟨#[72, 111, 112, 58, 32, 111, 110, 101, 46, 111, 114, 103]⟩ : ByteArray), (⟨#[72, 111, 112, 58, 32]⟩ : ByteArray), (⟨#[73, 100, 58, 32, 55]⟩ : ByteArray), (⟨#[110, 111, 116, 32, 100, 101, 108, 105, 118, 101, 114, 101, 100, 58]⟩ : ByteArray), (⟨#[60, 97, 64, 111, 110, 101, 46, 111, 114, 103, 62]⟩ : ByteArray), (⟨#[108, 105, 110, 101, 32, 116, 104, 97, 116, 32, 105, 115, 32, 101, 120, 97, 99, 116, 108, 121, 32, 102, 111, 114, 116, 121, 32, 98, 121, 116, 101, 115, 32, 108, 111, 110, 103, 46, 46, 33]⟩ : ByteArray)] (by simp) (by simp) h0 h1)
  exact ⟨v, p', Ev.bnd e (Ev.ret _), a, c, m⟩
theorem body_loop {b : List Int} (hb : Buf b) : ∀ (d : Nat) (p : Int) (x : List ByteArray), 0 ≤ p → p + d ≤ 1000000000 → x.length + d ≤ 1000 → (∀ s ∈ x, s.size ≤ 40) →
    Dr d p (fun k => spec_l20Body.l0 k x (d : Int) b p) (fun r => r.length = x.length + d ∧ ∀ s ∈ r, s.size ≤ 40) := by
  intro d
  induction d with
  | zero =>
    intro p x h0 h1 hx hs
    exact ⟨x, p, Ev.step (fun k => by rw [spec_l20Body.l0]) (Ev.neg (by omega) (Ev.ret _)), by omega, by omega, by omega, hs⟩
  | succ d ih =>
    intro p x h0 h1 hx hs
    obtain ⟨v, p', e, a, c, m⟩ := line_dr hb h0 (show p ≤ 1000000000 by omega)
    obtain ⟨r, q, e2, a2, c2, m2, m3⟩ := ih p' (x ++ [v]) (by omega) (by omega) (by simp; omega) (fun s hs' => by
      rcases List.mem_append.1 hs' with h | h
      · exact hs s h
      · rw [List.mem_singleton.1 h]; exact m)
    refine ⟨r, q, ?_, by omega, by omega, by rw [m2]; simp; omega, m3⟩
    refine Ev.step (fun k => by rw [spec_l20Body.l0]) ?_
    refine Ev.pos (by omega) ?_
    refine Ev.bnd e ?_
    refine Ev.pos (by omega) ?_
    rw [show wrap64 (((d + 1 : Nat) : Int) - 1) = (d : Int) by rw [w64 (by omega) (by omega)]; omega]
    exact e2
theorem body_dr {b : List Int} (hb : Buf b) {p : Int} (n : Int) (hn : 0 ≤ n) (hn2 : n ≤ 100) (h0 : 0 ≤ p) (h1 : p ≤ 1000000) : Dr (1 + n) p (fun k => spec_l20Body.f k b p n) (fun r => (r.length : Int) ≤ n ∧ ∀ s ∈ r, s.size ≤ 40) := by
  unfold spec_l20Body.f
  rw [w64 (by omega) (by omega)]
  obtain ⟨v, p', e, a, c, m0, m1⟩ := pick_dr hb (p := p) (n + 1) h0 (by omega) (by omega)
  have m1 := m1 (by omega)
  obtain ⟨d, rfl⟩ := int_of_nat m0
  obtain ⟨r, q, e2, a2, c2, m2, m3⟩ := body_loop hb d p' [] (by omega) (by omega) (by simp; omega) (by simp)
  exact ⟨r, q, Ev.bnd e e2, by omega, by omega, by rw [m2]; simp; omega, m3⟩
theorem anyBody_loop (b : List Int) (p : Int) : ∀ (d : Nat) (x : List ByteArray), x.length + d = 13 → (∀ s ∈ x, s.size ≤ 41) → ∃ r, Ev (fun k => spec_l20AnyBody.l0 k x b p) (r, p) ∧ r.length ≤ 13 ∧ ∀ s ∈ r, s.size ≤ 41 := by
  intro d
  induction d with
  | zero =>
    intro x hx hs
    exact ⟨x, Ev.step (fun k => by rw [spec_l20AnyBody.l0]) (Ev.neg (by omega) (Ev.ret _)), by omega, hs⟩
  | succ d ih =>
    intro x hx hs
    obtain ⟨r, e, h1, h2⟩ := ih (x ++ [⟨#[120]⟩]) (by simp; omega) (fun s hs' => by
      rcases List.mem_append.1 hs' with h | h
      · exact hs s h
      · rw [List.mem_singleton.1 h]; decide)
    exact ⟨r, Ev.step (fun k => by rw [spec_l20AnyBody.l0]) (Ev.pos (by omega) (Ev.pos (by omega) e)), h1, h2⟩
theorem anyBody_dr {b : List Int} (hb : Buf b) {p : Int} (h0 : 0 ≤ p) (h1 : p ≤ 100000) : Dr 1000 p (fun k => spec_l20AnyBody.f k b p) (fun r => r.length ≤ 13 ∧ ∀ s ∈ r, s.size ≤ 41) := by
  unfold spec_l20AnyBody.f
  obtain ⟨n, p1, e1, a1, c1, m1⟩ := one_dr hb (p := p) [0, 3, 6, 12] (by simp) (by simp) h0 (by omega)
  have hn : 0 ≤ n ∧ n ≤ 12 := by
    simp only [List.mem_cons, List.not_mem_nil, or_false] at m1
    omega
  obtain ⟨x, p2, e2, a2, c2, m2, m3⟩ := body_dr hb (p := p1) n hn.1 (by omega) (by omega) (by omega)
  obtain ⟨t, p3, e3, a3, c3, m4, m5⟩ := pick_dr hb (p := p2) 14 (by omega) (by omega) (by omega)
  by_cases h : t = 0
  · obtain ⟨v, p4, e4, a4, c4, m6⟩ := of_all (P := fun s => s.size ≤ 41) (by intro s hs; simp only [List.mem_cons, List.not_mem_nil, or_false] at hs; rcases hs with rfl | rfl | rfl | rfl <;> decide) (of_dr hb (p := p3) [(⟨#[97, 13]⟩ : ByteArray), (⟨#[97, 10, 98]⟩ : ByteArray), (⟨#[127]⟩ : ByteArray), (⟨#[97, 32, 108, 105, 110, 101, 32, 116, 104, 97, 116, 32, 105, 115, 32, 111, 110, 101, 32, 98, 121, 116, 101, 32, 108, 111, 110, 103, 101, 114, 32, 116, 104, 97, 110, 32, 102, 111, 114, 116, 121]⟩ : ByteArray)] (by simp) (by simp) (by omega) (by omega))
    refine ⟨x ++ [v], p4, ?_, by omega, by omega, by simp; omega, fun s hs => ?_⟩
    · exact Ev.bnd e1 (Ev.bnd e2 (Ev.bnd e3 (Ev.pos h (Ev.bnd e4 (Ev.pos (by show x.length < _; omega) (Ev.ret _))))))
    · rcases List.mem_append.1 hs with h | h
      · have := m3 s h; omega
      · rw [List.mem_singleton.1 h]; exact m6
  · by_cases h' : t = 1
    · obtain ⟨r, e4, q1, q2⟩ := anyBody_loop b p3 (13 - x.length) x (by omega) (fun s hs => by have := m3 s hs; omega)
      exact ⟨r, p3, Ev.bnd e1 (Ev.bnd e2 (Ev.bnd e3 (Ev.neg h (Ev.pos h' e4)))), by omega, by omega, q1, q2⟩
    · exact ⟨x, p3, Ev.bnd e1 (Ev.bnd e2 (Ev.bnd e3 (Ev.neg h (Ev.neg h' (Ev.ret _))))), by omega, by omega, by omega, fun s hs => by have := m3 s hs; omega⟩
end Go.Proofs.YtpeefjfklklhdaaDoor.Q
