/- Of a text of ours what this claim needs. -/
import Derived.Test.YtpeefjfklklhdaaDoorZzFnDomainPDom
import Derived.Test.YtpeefjfklklhdaaDoorZzFnDomainPDrawAddr
import Derived.Test.YtpeefjfklklhdaaDoorZzFnDomainQ7
import Derived.Test.YtpeefjfklklhdaaDoorZzFnDomainQ2
import Derived.Test.YtpeefjfklklhdaaDoorZzFnDomainQ6
import Derived.Test.YtpeefjfklklhdaaDoorZzFnDomainQ3
namespace Go.Proofs.YtpeefjfklklhdaaDoor.Q
open Go.RowKit Go.Proofs.YtpeefjfklklhdaaDoorW.PrintWords Go.Proofs.YtpeefjfklklhdaaDoorW.PrintLast Go.Proofs.YtpeefjfklklhdaaDoorW.PrintMore
set_option linter.unusedVariables false
def domIn (a b : ByteArray) : Bool := domL (LL a) && domL (LL b) && endsL (LL a) (LL b)
theorem specDomainIn_ev (a b : ByteArray) (ha : a.size ≤ 1099511627776) (hb : b.size ≤ 1099511627776) : Ev (fun k => spec_DomainIn.f k a b) (domIn a b) := by
  unfold spec_DomainIn.f domIn
  refine Ev.bnd (l1Domain_ev a ha) ?_
  by_cases h : domL (LL a) = true
  · refine Ev.pos h (Ev.bnd (l1Domain_ev b hb) ?_)
    by_cases h' : domL (LL b) = true
    · refine Ev.pos h' (Ev.bnd (Ev.k (l1Ends_f a b ha hb)) (Ev.eq (Ev.ret _) ?_))
      rw [h, h', Bool.true_and, Bool.true_and]
    · refine Ev.neg h' (Ev.eq (Ev.ret _) ?_)
      rw [Bool.not_eq_true] at h'
      rw [h', Bool.and_false, Bool.false_and]
  · refine Ev.neg h (Ev.eq (Ev.ret _) ?_)
    rw [Bool.not_eq_true] at h
    rw [h, Bool.false_and, Bool.false_and]
theorem implDomainIn_ev (a b : ByteArray) (ha : a.size ≤ 4294967280) (hb : b.size ≤ 4294967280) : Ev (fun k => impl_DomainIn.f k a b) (domIn a b) := by
  unfold impl_DomainIn.f domIn
  refine Ev.bnd (implDomainOk_ev a ha) ?_
  by_cases h : domL (LL a) = true
  · refine Ev.pos h (Ev.bnd (implDomainOk_ev b hb) ?_)
    by_cases h' : domL (LL b) = true
    · refine Ev.pos h' ?_
      rw [h, h', Bool.true_and, Bool.true_and, endsL_suffix]
      by_cases e : a = b
      · refine Ev.pos (toList_eq.2 e) (Ev.eq (Ev.ret _) ?_)
        simp [e]
      · have hz : ((⟨#[46]⟩ : ByteArray) ++ b).size = 1 + b.size := by rw [size_append]; rfl
        have hl : LL ((⟨#[46]⟩ : ByteArray) ++ b) = 46 :: LL b := by rw [LL_append]; rfl
        refine Ev.neg (fun q => e (toList_eq.1 q)) (Ev.pos (by omega) (Ev.bnd (Ev.k (hasSuffix_f a _ (by omega) (by omega))) (Ev.eq (Ev.ret _) ?_)))
        rw [hz, hl, show decide (a = b) = false by rw [decide_eq_false_iff_not]; exact e, Bool.false_or]
    · refine Ev.neg h' (Ev.eq (Ev.ret _) ?_)
      rw [Bool.not_eq_true] at h'
      rw [h', Bool.and_false, Bool.false_and]
  · refine Ev.neg h (Ev.eq (Ev.ret _) ?_)
    rw [Bool.not_eq_true] at h
    rw [h, Bool.false_and, Bool.false_and]
theorem ends_size {a b : List UInt8} (h : endsL a b = true) : b.length ≤ a.length := by
  unfold endsL at h
  rw [Bool.or_eq_true, decide_eq_true_eq, decide_eq_true_eq] at h
  rcases h with rfl | h
  · exact Nat.le_refl _
  · omega
theorem ends_self (a : List UInt8) : endsL a a = true := by unfold endsL; simp
theorem ends_more {a b : List UInt8} (h : endsL a b = true) : endsL (120 :: 46 :: a) b = true := by
  unfold endsL at h ⊢
  rw [Bool.or_eq_true, decide_eq_true_eq, decide_eq_true_eq] at *
  rcases h with rfl | ⟨h1, h2⟩
  · refine .inr ⟨by simp only [List.length_cons]; omega, ?_⟩
    rw [show (120 :: 46 :: a).length - a.length - 1 = 1 by simp; omega]
    rfl
  · refine .inr ⟨by simp; omega, ?_⟩
    rw [show (120 :: 46 :: a).length - b.length - 1 = (a.length - b.length - 1) + 2 by simp; omega]
    exact h2
theorem drawDomainIn_ev (l : List Int) (hl : ∀ z ∈ l, (Lit.int .u8 z).wf = true) : ∃ x y, Ev (fun k => spec_DrawDomainIn.f k l) (x, y) ∧ x.size ≤ 9 ∧ y.size ≤ 9 := by
  obtain ⟨b, hb, hb1, hb2⟩ := open_ok l hl
  have hB : Buf b := ⟨hb1, hb2⟩
  unfold spec_DrawDomainIn.f
  obtain ⟨x, p, e, a, c, m⟩ := of_all (P := fun s => s.size ≤ 9) (sizes_of (by decide)) (of_dr hB (p := 0) [(⟨#[111, 110, 101, 46, 111, 114, 103]⟩ : ByteArray), (⟨#[97, 46, 111, 110, 101, 46, 111, 114, 103]⟩ : ByteArray), (⟨#[100, 111, 110, 101, 46, 111, 114, 103]⟩ : ByteArray), (⟨#[111, 114, 103]⟩ : ByteArray), (⟨#[120, 46, 99, 111, 109]⟩ : ByteArray), (⟨#[111, 110, 101, 46, 111, 114, 103]⟩ : ByteArray)] (by simp) (by simp) (by omega) (by omega))
  obtain ⟨y, q, e2, a2, c2, m2⟩ := of_all (P := fun s => s.size ≤ 9) (sizes_of (by decide)) (of_dr hB (p := p) [(⟨#[111, 110, 101, 46, 111, 114, 103]⟩ : ByteArray), (⟨#[111, 114, 103]⟩ : ByteArray), (⟨#[99, 111, 109]⟩ : ByteArray), (⟨#[110, 101, 46, 111, 114, 103]⟩ : ByteArray), (⟨#[]⟩ : ByteArray), (⟨#[97, 46, 111, 110, 101, 46, 111, 114, 103]⟩ : ByteArray)] (by simp) (by simp) (by omega) (by omega))
  exact ⟨x, y, Ev.bnd (Ev.k hb) (Ev.bnd e (Ev.bnd e2 (Ev.ret _))), m, m2⟩
theorem fnDomain_pure : ∀ (l0 : List Int), (l0.length ≤ maxLen ∧ ∀ z ∈ l0, (Lit.int .u8 z).wf = true) → ∃ k, laws_FnDomain.f k l0 = some true := by
  intro l hl
  refine Ev.ex ?_
  unfold laws_FnDomain.f
  by_cases h : (l.length : Int) > 1048576
  · exact Ev.pos h (Ev.ret _)
  · obtain ⟨x, y, hx, sx, sy⟩ := drawDomainIn_ev l hl.2
    have io := fun (s : ByteArray) (hs : s.size ≤ 11) => implDomainOk_ev s (by omega)
    have so : Ev (fun k => spec_DomainOk.f k x) (domL (LL x)) := Ev.bnd (l1Domain_ev x (by omega)) (Ev.ret _)
    have ii := fun (a b : ByteArray) (ha : a.size ≤ 11) (hb : b.size ≤ 11) => implDomainIn_ev a b (by omega) (by omega)
    have si := specDomainIn_ev x y (by omega) (by omega)
    have hz : ((⟨#[120, 46]⟩ : ByteArray) ++ x).size = 2 + x.size := by rw [size_append]; rfl
    have hL : LL ((⟨#[120, 46]⟩ : ByteArray) ++ x) = 120 :: 46 :: LL x := by rw [LL_append]; rfl
    have flag : ∀ b : Bool, b = true → Ev (fun k => laws_FnDomain.j0 k x y (domIn x y) b) true := by
      intro b hb
      subst hb
      refine Ev.step (fun k => by rw [laws_FnDomain.j0]) ?_
      exact Ev.pos rfl (Ev.bnd si (Ev.pos (by simp) (Ev.bnd (io x (by omega)) (Ev.bnd so (Ev.eq (Ev.ret _) (by simp))))))
    refine Ev.neg h (Ev.bnd hx (Ev.bnd (ii x y (by omega) (by omega)) (Ev.bnd si (Ev.neg (by simp) (Ev.bnd (io x (by omega)) (Ev.bnd so (Ev.neg (by simp) (Ev.bnd (io x (by omega)) ?_))))))))
    by_cases h1 : domL (LL x) = true
    · refine Ev.pos h1 (Ev.bnd (io y (by omega)) ?_)
      by_cases h2 : domL (LL y) = true
      · refine Ev.step (fun k => by rw [laws_FnDomain.j0]) ?_
        refine Ev.neg (by rw [h2]; simp) (Ev.pos (by show 2 + x.size ≤ _; omega) (Ev.bnd (ii x x (by omega) (by omega)) (Ev.pos (by unfold domIn; rw [h1, ends_self]; rfl) (Ev.bnd (io ((⟨#[120, 46]⟩ : ByteArray) ++ x) (by omega)) ?_))))
        have hxy : domIn x y = endsL (LL x) (LL y) := by unfold domIn; rw [h1, h2]; rfl
        have back : domIn x ((⟨#[120, 46]⟩ : ByteArray) ++ x) = false := by
          cases e : domIn x ((⟨#[120, 46]⟩ : ByteArray) ++ x) with
          | false => rfl
          | true =>
            unfold domIn at e
            rw [Bool.and_eq_true] at e
            have := ends_size e.2
            rw [hL] at this
            simp at this
            omega
        have hge : domIn x y = true → (x.size : Int) ≥ (y.size : Int) := by
          intro e
          rw [hxy] at e
          have := ends_size e
          rw [← size_LL, ← size_LL] at this
          omega
        have bi := ii x ((⟨#[120, 46]⟩ : ByteArray) ++ x) (by omega) (by omega)
        rw [back] at bi
        rw [hL]
        by_cases h3 : domL (120 :: 46 :: LL x) = true
        · have i1 : domIn ((⟨#[120, 46]⟩ : ByteArray) ++ x) x = true := by unfold domIn; rw [hL, h3, h1, ends_more (ends_self _)]; rfl
          refine Ev.pos h3 (Ev.bnd (ii ((⟨#[120, 46]⟩ : ByteArray) ++ x) x (by omega) (by omega)) (Ev.pos i1 ?_))
          by_cases h4 : domIn x y = true
          · have i2 : domIn ((⟨#[120, 46]⟩ : ByteArray) ++ x) y = true := by unfold domIn; rw [hL, h3, h2, ends_more (by rw [← hxy]; exact h4)]; rfl
            exact Ev.pos h4 (Ev.bnd (ii ((⟨#[120, 46]⟩ : ByteArray) ++ x) y (by omega) (by omega)) (Ev.pos i2 (Ev.bnd bi (Ev.neg (by simp) (Ev.eq (Ev.ret _) (by rw [decide_eq_true_eq]; exact hge h4))))))
          · exact Ev.neg h4 (Ev.bnd bi (Ev.neg (by simp) (Ev.ret _)))
        · refine Ev.neg h3 (Ev.bnd bi (Ev.neg (by simp) ?_))
          by_cases h4 : domIn x y = true
          · exact Ev.pos h4 (Ev.eq (Ev.ret _) (by rw [decide_eq_true_eq]; exact hge h4))
          · exact Ev.neg h4 (Ev.ret _)
      · rw [Bool.not_eq_true] at h2
        exact flag _ (by rw [h2]; rfl)
    · exact Ev.neg h1 (flag _ rfl)
end Go.Proofs.YtpeefjfklklhdaaDoor.Q
