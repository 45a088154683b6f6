/- Of a text of ours what this claim needs. -/
import Derived.Test.YtpeefjfklklhdaaDoorZzFnAddrGetPAddrGet
import Derived.Test.YtpeefjfklklhdaaDoorZzFnAddrGetPDrawAddr
import Derived.Test.YtpeefjfklklhdaaDoorZzFnAddrGetQ28
import Derived.Test.YtpeefjfklklhdaaDoorZzFnAddrGetQ27
namespace Go.Proofs.YtpeefjfklklhdaaDoor.Q
open Go.RowKit Go.Proofs.YtpeefjfklklhdaaDoorW.PrintWords Go.Proofs.YtpeefjfklklhdaaDoorW.PrintLast Go.Proofs.YtpeefjfklklhdaaDoorW.PrintMore
set_option linter.unusedVariables false
theorem putA_size (u d : ByteArray) (hu : u.size ≤ 11) (hd : d.size ≤ 9) : (putA u d).size ≤ 23 := by
  have hsu := size_LL u
  have hsd := size_LL d
  unfold putA textA
  split
  · split
    · decide
    · rw [size_BB]
      unfold textL
      simp
      omega
  · decide
theorem drawAddrGet_ev (l : List Int) (hl : ∀ z ∈ l, (Lit.int .u8 z).wf = true) : ∃ s, Ev (fun k => spec_DrawAddrGet.f k l) s ∧ s.size ≤ 27 := by
  obtain ⟨b, hb, hb1, hb2⟩ := open_ok l hl
  have hB : Buf b := ⟨hb1, hb2⟩
  obtain ⟨u, d, p, e, a, c, h1, h2⟩ := anyAddr_dr hB (p := 0) (by omega) (by omega)
  have hs := specAddrPut_ev u d (by omega) (by omega)
  have hz := putA_size u d h1 h2
  obtain ⟨t, p2, e2, a2, c2, _, _⟩ := pick_dr hB (p := p) 2 (by omega) (by omega) (by omega)
  unfold spec_DrawAddrGet.f
  by_cases h : t = 0
  · exact ⟨_, Ev.bnd (Ev.k hb) (Ev.bnd e (Ev.bnd hs (Ev.bnd e2 (Ev.pos h (Ev.ret _))))), by omega⟩
  · obtain ⟨y, p3, e3, a3, c3, h4⟩ := bent_dr hB (p := p2) (putA u d) (by omega) (by omega) (by omega)
    exact ⟨y, Ev.bnd (Ev.k hb) (Ev.bnd e (Ev.bnd hs (Ev.bnd e2 (Ev.neg h (Ev.bnd e3 (Ev.ret _)))))), by omega⟩
theorem fnAddrGet_pure : ∀ (l0 : List Int), (l0.length ≤ maxLen ∧ ∀ z ∈ l0, (Lit.int .u8 z).wf = true) → ∃ k, laws_FnAddrGet.f k l0 = some true := by
  intro l hl
  refine Ev.ex ?_
  unfold laws_FnAddrGet.f
  by_cases h : (l.length : Int) > 1048576
  · exact Ev.pos h (Ev.ret _)
  · obtain ⟨s, hx, hz⟩ := drawAddrGet_ev l hl.2
    obtain ⟨v, h1, h2, h3⟩ := addrGet_ev s (by omega)
    refine Ev.neg h (Ev.bnd hx (Ev.bnd h2 (Ev.bnd h1 (Ev.neg (by simp) (Ev.neg (by simp) ?_)))))
    rcases h3 with ⟨u, d, rfl, hse, ht⟩ | ⟨rfl, _⟩
    · have hsz : u.size ≤ 4294967280 ∧ d.size ≤ 4294967280 := by
        rcases sender_cases hse with ⟨rfl, rfl⟩ | ha
        · exact ⟨by decide, by decide⟩
        · have := congrArg List.length (textA_inner ha ht)
          rw [← size_LL] at this
          have hsu := size_LL u
          have hsd := size_LL d
          simp at this
          constructor <;> omega
      refine Ev.pos rfl (Ev.bnd (implAddrPut_ev u d hsz.1 hsz.2) (Ev.eq (Ev.ret _) ?_))
      unfold putA
      rw [if_pos hse, ht]
      simp
    · exact Ev.neg (by simp) (Ev.pos (by simp) (Ev.eq (Ev.ret _) (by simp)))
end Go.Proofs.YtpeefjfklklhdaaDoor.Q
