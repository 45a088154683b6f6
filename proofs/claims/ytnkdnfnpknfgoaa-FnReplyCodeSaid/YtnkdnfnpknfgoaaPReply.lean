/- Plain laws: an answer's number; both alike. -/
import Derived.Test.YtnkdnfnpknfgoaaPBase
import Derived.Test.YtnkdnfnpknfgoaaHReply
import Derived.Test.YtnkdnfnpknfgoaaQ3
namespace Go.Proofs.Ytnkdnfnpknfgoaa.Q
open Go.RowKit Go.Proofs.YtnkdnfnpknfgoaaW.PrintWords Go.Proofs.YtnkdnfnpknfgoaaW.PrintLast Go.Proofs.YtnkdnfnpknfgoaaW.PrintMore
set_option linter.unusedVariables false
set_option linter.unusedSimpArgs false
theorem bt_ext (s : ByteArray) (m : Nat) (hm : m ≤ s.size) (j : Nat) (hj : j < m) : bt (s.extract 0 m) (j : Int) = bt s (j : Int) := by
  obtain ⟨c, hc, hb⟩ := bt_get s j (by omega)
  obtain ⟨d, hd, hb2⟩ := bt_get (s.extract 0 m) j (by rw [size_extract s 0 m (by omega) hm]; omega)
  rw [LL_extract, List.drop_zero, List.getElem?_take, if_pos (by omega), hc] at hd
  rw [hb, hb2, Option.some.inj hd]
def figP (x : Int) : Prop := 48 ≤ x ∧ x ≤ 57
/-- An answer's number. -/
def replyV (s : ByteArray) : Int :=
  if (4 : Int) ≤ (s.size : Int) ∧ 50 ≤ bt s 0 ∧ bt s 0 ≤ 53 ∧ bt s 3 = 32 ∧ (48 ≤ bt s 1 ∧ bt s 1 ≤ 57 ∧ 48 ≤ bt s 2 ∧ bt s 2 ≤ 57) then (bt s 0 - 48) * 100 + (bt s 1 - 48) * 10 + (bt s 2 - 48) else 0
theorem implReply_f (s : ByteArray) : impl_ReplyCode.f s = some (replyV s) := by
  unfold impl_ReplyCode.f replyV
  by_cases h1 : (s.size : Int) < 4
  · rw [if_pos h1, if_neg (by omega)]
  rw [if_neg h1]
  by_cases h2 : bt s 0 < 50
  · rw [if_pos h2, if_neg (by omega)]
  rw [if_neg h2]
  by_cases h3 : bt s 0 > 53
  · rw [if_pos h3, if_neg (by omega)]
  rw [if_neg h3]
  by_cases h4 : bt s 3 = 32
  · rw [if_pos h4]
    by_cases h5 : 48 ≤ bt s 1 ∧ bt s 1 ≤ 57 ∧ 48 ≤ bt s 2 ∧ bt s 2 ≤ 57
    · rw [if_pos h5, if_pos ⟨by omega, by omega, by omega, h4, h5⟩]
      have e : codeAt s 3 = ((0 * 10 + (bt s 0 - 48)) * 10 + (bt s 1 - 48)) * 10 + (bt s 2 - 48) := rfl
      rw [e]
      congr 1
      omega
    · rw [if_neg h5, if_neg (fun h => h5 h.2.2.2.2)]
  · rw [if_neg h4, if_neg (fun h => h4 h.2.2.2.1)]
theorem num_step {n x : Int} (h0 : 0 ≤ n) (h1 : n ≤ 1000) (hx : 48 ≤ x) (hx1 : x ≤ 57) : wrap64 (wrap64 (n * 10) + (x - 48) % 256) = n * 10 + (x - 48) := by
  unfold wrap64
  omega
theorem specReply_ev (s : ByteArray) : Ev (fun k => spec_ReplyCode.f k s) (replyV s) := by
  unfold spec_ReplyCode.f
  refine Ev.bnd (a := replyV s) ?_ (Ev.ret _)
  have j1 : ∀ v, v = (0 : Int) → Ev (fun k => spec_l4Code.j0 k s true) v := fun v hv => Ev.eq (Ev.step (fun k => by rw [spec_l4Code.j0]) (Ev.pos rfl (Ev.ret _))) hv.symm
  unfold spec_l4Code.f replyV
  by_cases h1 : (s.size : Int) < 4
  · exact Ev.pos h1 (j1 _ (if_neg (by omega)))
  refine Ev.neg h1 (Ev.pos (by omega) ?_)
  by_cases h4 : bt s 3 = 32
  · refine Ev.pos h4 (Ev.pos (by omega) ?_)
    by_cases h2 : bt s 0 < 50
    · exact Ev.pos h2 (j1 _ (if_neg (by omega)))
    refine Ev.neg h2 ?_
    by_cases h3 : bt s 0 > 53
    · rw [decide_eq_true h3]
      exact j1 _ (if_neg (by omega))
    · rw [decide_eq_false h3]
      refine Ev.step (fun k => by rw [spec_l4Code.j0]) (Ev.neg (by simp) (Ev.pos (by omega) (Ev.pos (by omega) ?_)))
      have hsz := size_extract s 0 3 (by omega) (by omega)
      have b0 : bt (s.extract 0 3) 0 = bt s 0 := bt_ext s 3 (by omega) 0 (by omega)
      have b1 : bt (s.extract 0 3) 1 = bt s 1 := bt_ext s 3 (by omega) 1 (by omega)
      have b2 : bt (s.extract 0 3) 2 = bt s 2 := bt_ext s 3 (by omega) 2 (by omega)
      have hbad : Ev (fun k => spec_l1Num.f k (s.extract 0 3)) (-1) → Ev (fun k => (spec_l1Num.f k (s.extract 0 3)).bind fun t => if t < 200 then some 0 else some t) 0 := fun e => Ev.bnd e (Ev.pos (by omega) (Ev.ret _))
      have w0 : wrap64 (0 + 1) = 1 := by unfold wrap64; omega
      have w1 : wrap64 (1 + 1) = 2 := by unfold wrap64; omega
      have w2 : wrap64 (2 + 1) = 3 := by unfold wrap64; omega
      have hstart : ∀ v, Ev (fun k => spec_l1Num.l0 k (s.extract 0 3) (bt s 0 - 48) 1) v → Ev (fun k => spec_l1Num.f k (s.extract 0 3)) v := fun v e => by
        unfold spec_l1Num.f
        refine Ev.step (fun k => by rw [spec_l1Num.l0]) (Ev.pos (by omega) (Ev.pos (by omega) (Ev.neg (by omega) (Ev.neg (by omega) (Ev.neg (by omega) ?_)))))
        rw [b0, num_step (by omega) (by omega) (by omega) (by omega), w0, Int.zero_mul, Int.zero_add]
        exact e
      by_cases h5 : 48 ≤ bt s 1 ∧ bt s 1 ≤ 57
      · have hnext : ∀ v, Ev (fun k => spec_l1Num.l0 k (s.extract 0 3) ((bt s 0 - 48) * 10 + (bt s 1 - 48)) 2) v → Ev (fun k => spec_l1Num.f k (s.extract 0 3)) v := fun v e => by
          refine hstart v (Ev.step (fun k => by rw [spec_l1Num.l0]) (Ev.pos (by omega) (Ev.pos (by omega) (Ev.neg (by omega) (Ev.neg (by omega) (Ev.neg (by omega) ?_))))))
          rw [b1, num_step (by omega) (by omega) (by omega) (by omega), w1]
          exact e
        by_cases h6 : 48 ≤ bt s 2 ∧ bt s 2 ≤ 57
        · rw [if_pos ⟨by omega, by omega, by omega, h4, h5.1, h5.2, h6.1, h6.2⟩]
          have : Ev (fun k => spec_l1Num.f k (s.extract 0 3)) ((bt s 0 - 48) * 100 + (bt s 1 - 48) * 10 + (bt s 2 - 48)) := by
            refine hnext _ (Ev.step (fun k => by rw [spec_l1Num.l0]) (Ev.pos (by omega) (Ev.pos (by omega) (Ev.neg (by omega) (Ev.neg (by omega) (Ev.neg (by omega) ?_))))))
            rw [b2, num_step (by omega) (by omega) (by omega) (by omega), w2]
            refine Ev.step (fun k => by rw [spec_l1Num.l0]) (Ev.neg (by omega) (Ev.neg (by omega) (Ev.pos (by omega) (Ev.pos (by omega) (Ev.neg (by omega) (Ev.eq (Ev.ret _) ?_))))))
            omega
          exact Ev.bnd this (Ev.neg (by omega) (Ev.ret _))
        · rw [if_neg (fun h => h6 ⟨h.2.2.2.2.2.2.1, h.2.2.2.2.2.2.2⟩)]
          refine hbad (hnext _ (Ev.step (fun k => by rw [spec_l1Num.l0]) (Ev.pos (by omega) (Ev.pos (by omega) ?_))))
          by_cases h7 : bt (s.extract 0 3) 2 < 48
          · exact Ev.pos h7 (Ev.ret _)
          · exact Ev.neg h7 (Ev.pos (by omega) (Ev.ret _))
      · rw [if_neg (fun h => h5 ⟨h.2.2.2.2.1, h.2.2.2.2.2.1⟩)]
        refine hbad (hstart _ (Ev.step (fun k => by rw [spec_l1Num.l0]) (Ev.pos (by omega) (Ev.pos (by omega) ?_))))
        by_cases h7 : bt (s.extract 0 3) 1 < 48
        · exact Ev.pos h7 (Ev.ret _)
        · exact Ev.neg h7 (Ev.pos (by omega) (Ev.ret _))
  · exact Ev.neg h4 (j1 _ (if_neg (fun h => h4 h.2.2.2.1)))
end Go.Proofs.Ytnkdnfnpknfgoaa.Q
