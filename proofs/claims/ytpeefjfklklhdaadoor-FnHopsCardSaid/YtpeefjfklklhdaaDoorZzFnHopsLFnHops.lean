/- Of a text of ours what this claim needs. -/
import Derived.Test.YtpeefjfklklhdaaDoorZzFnHopsPHopPut
import Derived.Test.YtpeefjfklklhdaaDoorZzFnHopsPDrawAddr
import Derived.Test.YtpeefjfklklhdaaDoorZzFnHopsPSa
import Derived.Test.YtpeefjfklklhdaaDoorZzFnHopsPLen
import Derived.Test.YtpeefjfklklhdaaDoorZzFnHopsPAddrText
import Derived.Test.YtpeefjfklklhdaaDoorZzFnHopsQ40
import Derived.Test.YtpeefjfklklhdaaDoorZzFnHopsQ39
namespace Go.Proofs.YtpeefjfklklhdaaDoor.Q
open Go.RowKit Go.Proofs.YtpeefjfklklhdaaDoorW.PrintWords Go.Proofs.YtpeefjfklklhdaaDoorW.PrintLast Go.Proofs.YtpeefjfklklhdaaDoorW.PrintMore
set_option linter.unusedVariables false
theorem drawHops_loop {b : List Int} (hb : Buf b) : ∀ (d : Nat) (p : Int) (x : List ByteArray), 0 ≤ p → p + d ≤ 1000 → x.length + d ≤ 100 → (∀ s ∈ x, s.size ≤ 41) →
    ∃ r, Ev (fun k => spec_DrawHopsOf.l0 k x (d : Int) b p) r ∧ r.length ≤ 200 ∧ ∀ s ∈ r, s.size ≤ 41 := by
  intro d
  induction d with
  | zero =>
    intro p x h0 h1 hx hs
    obtain ⟨y, p', e, a, c, m1, m2⟩ := anyBody_dr hb (p := p) h0 (by omega)
    refine ⟨x ++ y, Ev.step (fun k => by rw [spec_DrawHopsOf.l0]) (Ev.neg (by omega) (Ev.bnd e (Ev.pos (by show x.length + y.length < 8796093022208; omega) (Ev.ret _)))), by simp; omega, fun s hs' => ?_⟩
    rcases List.mem_append.1 hs' with h | h
    · exact hs s h
    · exact m2 s h
  | succ d ih =>
    intro p x h0 h1 hx hs
    obtain ⟨v, p', e, a, c, m⟩ := domain_dr hb h0 (show p ≤ 1000000 by omega)
    obtain ⟨r, e2, m2, m3⟩ := ih p' (x ++ [(⟨#[72, 111, 112, 58, 32]⟩ : ByteArray) ++ v]) (by omega) (by omega) (by simp; omega) (fun s hs' => by
      rcases List.mem_append.1 hs' with h | h
      · exact hs s h
      · rw [List.mem_singleton.1 h, size_append]; show 5 + v.size ≤ 41; omega)
    refine ⟨r, ?_, m2, m3⟩
    refine Ev.step (fun k => by rw [spec_DrawHopsOf.l0]) ?_
    refine Ev.pos (by omega) (Ev.bnd e (Ev.pos (by show 5 + v.size ≤ 9223372036854775807; omega) (Ev.pos (by omega) ?_)))
    rw [show wrap64 (((d + 1 : Nat) : Int) - 1) = (d : Int) by rw [w64 (by omega) (by omega)]; omega]
    exact e2
theorem drawHops_ev (l : List Int) (hl : ∀ z ∈ l, (Lit.int .u8 z).wf = true) : ∃ r, Ev (fun k => spec_DrawHopsOf.f k l) r ∧ r.length ≤ 200 ∧ ∀ s ∈ r, s.size ≤ 41 := by
  obtain ⟨b, hb, hb1, hb2⟩ := open_ok l hl
  have hB : Buf b := ⟨hb1, hb2⟩
  obtain ⟨n, p, e, a, c, m0, m1⟩ := pick_dr hB (p := 0) 5 (by omega) (by omega) (by omega)
  have m1 := m1 (by omega)
  obtain ⟨d, rfl⟩ := int_of_nat m0
  obtain ⟨r, e2, m2, m3⟩ := drawHops_loop hB d p [] (by omega) (by omega) (by simp; omega) (by simp)
  exact ⟨r, by unfold spec_DrawHopsOf.f; exact Ev.bnd (Ev.k hb) (Ev.bnd e e2), m2, m3⟩
theorem drawHopPut_ev (l : List Int) (hl : ∀ z ∈ l, (Lit.int .u8 z).wf = true) : ∃ n r, Ev (fun k => spec_DrawHopPut.f k l) (n, r) ∧ n.size ≤ 9 := by
  obtain ⟨b, hb, hb1, hb2⟩ := open_ok l hl
  have hB : Buf b := ⟨hb1, hb2⟩
  obtain ⟨u, d, p, e, a, c, h1, h2⟩ := anyAddr_dr hB (p := 0) (by omega) (by omega)
  obtain ⟨y, p', e2, _, _, _, _⟩ := anyBody_dr hB (p := p) (by omega) (by omega)
  exact ⟨d, y, by unfold spec_DrawHopPut.f; exact Ev.bnd (Ev.k hb) (Ev.bnd e (Ev.bnd e2 (Ev.ret _))), h2⟩
theorem hop_pre (s : List UInt8) : Lib.hasPrefix (HOP ++ s) HOP = true := by
  rw [prefix_take _ _ (by simp)]
  simp
theorem hopL_line {s : ByteArray} (h : domL (LL s) = true) : hopL (hopLine s) = true := by
  unfold hopL hopLine
  rw [LL_append, show LL (⟨#[72, 111, 112, 58, 32]⟩ : ByteArray) = HOP from rfl, hop_pre, Bool.true_and]
  exact h
theorem hopL_x : hopL ⟨#[120]⟩ = false := by decide
theorem wordCh_ok {c : UInt8} (h : wordCh c = true) : chOk c = true := by
  unfold wordCh at h
  unfold chOk
  simp only [Bool.or_eq_true, Bool.and_eq_true, decide_eq_true_eq] at h ⊢
  omega
theorem lineOk_hop {s : ByteArray} (h : domL (LL s) = true) : lineOk (hopLine s) = true := by
  unfold lineOk hopLine
  rw [LL_append, List.all_append, size_append]
  have h1 : (LL (⟨#[72, 111, 112, 58, 32]⟩ : ByteArray)).all chOk = true := by decide
  have h2 : (LL s).all chOk = true := by
    rw [List.all_eq_true]
    intro c hc
    rcases domL_mem h hc with hw | rfl
    · exact wordCh_ok hw
    · decide
  have h3 := domL_len h
  rw [← size_LL] at h3
  rw [h1, h2, Bool.true_and, Bool.true_and, decide_eq_true_eq]
  show 5 + s.size ≤ 40
  omega
theorem fnHops_pure : ∀ (l0 : List Int) (l1 : List Int), (l0.length ≤ maxLen ∧ ∀ z ∈ l0, (Lit.int .u8 z).wf = true) → (l1.length ≤ maxLen ∧ ∀ z ∈ l1, (Lit.int .u8 z).wf = true) → ∃ k, laws_FnHops.f k l0 l1 = some true := by
  intro l m hl hm
  refine Ev.ex ?_
  unfold laws_FnHops.f
  have big : Ev (fun k => laws_FnHops.j0 k l m true) true := Ev.step (fun k => by rw [laws_FnHops.j0]) (Ev.pos rfl (Ev.ret _))
  by_cases h : (l.length : Int) > 1048576
  · exact Ev.pos h big
  refine Ev.neg h ?_
  by_cases h' : (m.length : Int) > 1048576
  · rw [decide_eq_true h']
    exact big
  rw [decide_eq_false h']
  obtain ⟨x, hx, hxl, hxs⟩ := drawHops_ev l hl.2
  obtain ⟨n, y, hn, hns⟩ := drawHopPut_ev m hm.2
  have hxs1 : ∀ s ∈ x, s.size ≤ 9223372036854775807 := fun s hs => by have := hxs s hs; omega
  have hi := implHopsOf_ev x (by omega) hxs1
  have hs := specHopsOf_ev x (by omega) hxs1
  have pi := implHopPut_ev n x (by omega) (by omega) hxs1
  have ps := specHopPut_ev n x (by omega) (by omega) hxs1
  have hlen := hopPut_len n x
  have hsa := saTexts_ev (hopPut n x).1 (hopPut n x).1 (by omega)
  refine Ev.step (fun k => by rw [laws_FnHops.j0]) ?_
  refine Ev.neg (by simp) (Ev.bnd hx (Ev.bnd hi (Ev.bnd hn (Ev.bnd pi (Ev.bnd ps (Ev.bnd hs (Ev.pos rfl (Ev.neg (by simp) (Ev.bnd hsa (Ev.pos (by simp) ?_))))))))))
  refine Ev.step (fun k => by rw [laws_FnHops.j1]) ?_
  by_cases hb : bodyOk x = true
  · have e1 : hopsOf x = ((hopsN x : Nat) : Int) := by unfold hopsOf; rw [if_pos hb]
    rw [e1]
    have hbp := bodyOk_parts hb
    refine Ev.neg (by first | (simp; done) | (simp; omega)) (Ev.bnd (Ev.ret _) (Ev.pos (by show 1 + x.length < 8796093022208; omega) ?_))
    have hxx : ∀ s ∈ [(⟨#[120]⟩ : ByteArray)] ++ x, s.size ≤ 9223372036854775807 := fun s hs => by
      rcases List.mem_append.1 hs with h | h
      · rw [List.mem_singleton.1 h]; decide
      · exact hxs1 s h
    have hb2 := implHopsOf_ev ([(⟨#[120]⟩ : ByteArray)] ++ x) (by simp; omega) hxx
    have hle : hopsOf ([(⟨#[120]⟩ : ByteArray)] ++ x) ≤ 0 := by
      unfold hopsOf
      split
      · show ((hopsN (⟨#[120]⟩ :: x) : Nat) : Int) ≤ 0
        rw [hop_cons, hopL_x, if_neg (by simp)]
        omega
      · omega
    have hnl : hopsN x ≤ x.length := by unfold hopsN; exact (List.takeWhile_sublist _).length_le
    refine Ev.bnd hb2 (Ev.pos (by omega) (Ev.pos hle ?_))
    by_cases hp : domL (LL n) = true ∧ bodyOk x = true ∧ x.length ≠ 12
    · have ep : hopPut n x = (hopLine n :: x, true) := by unfold hopPut; rw [if_pos hp]
      have hl1 : (hopLine n).size ≤ 40 := lineOk_size (lineOk_hop hp.1)
      have hpp := implHopsOf_ev (hopLine n :: x) (by simp; omega) (fun s hs => by
        rcases List.mem_cons.1 hs with rfl | h
        · omega
        · exact hxs1 s h)
      have hb3 : bodyOk (hopLine n :: x) = true := by
        unfold bodyOk at hb ⊢
        rw [Bool.and_eq_true, decide_eq_true_eq] at hb
        rw [List.all_cons, lineOk_hop hp.1, hb.1, Bool.true_and, Bool.true_and, decide_eq_true_eq, List.length_cons]
        omega
      have e3 : hopsOf (hopLine n :: x) = ((hopsN x + 1 : Nat) : Int) := by
        unfold hopsOf
        rw [if_pos hb3, hop_cons, if_pos (hopL_line hp.1)]
      rw [ep]
      refine Ev.pos rfl (Ev.bnd hpp (Ev.pos ?_ (Ev.pos (by simp; omega) (Ev.bnd (saTexts_ev _ _ (by simp; omega)) (Ev.eq (Ev.ret _) ?_)))))
      · rw [e3, wsucc (by omega)]
      · simp
    · have ep : hopPut n x = ([], false) := by unfold hopPut; rw [if_neg hp]
      rw [ep]
      exact Ev.neg (by simp) (Ev.ret _)
  · have e1 : hopsOf x = -1 := by unfold hopsOf; rw [if_neg hb]
    refine Ev.pos (by rw [e1]; rfl) (Ev.bnd hs (Ev.pos rfl (Ev.pos (by simp) (Ev.bnd hsa (Ev.eq (Ev.ret _) (by simp))))))
end Go.Proofs.YtpeefjfklklhdaaDoor.Q
