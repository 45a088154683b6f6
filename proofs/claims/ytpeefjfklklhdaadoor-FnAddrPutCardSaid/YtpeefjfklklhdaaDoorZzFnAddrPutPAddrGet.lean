/- Of a text of ours what this claim needs. -/
import Derived.Test.YtpeefjfklklhdaaDoorZzFnAddrPutPAddrText
import Derived.Test.YtpeefjfklklhdaaDoorZzFnAddrPutPStr
import Derived.Test.YtpeefjfklklhdaaDoorZzFnAddrPutQ10
import Derived.Test.YtpeefjfklklhdaaDoorZzFnAddrPutQ11
namespace Go.Proofs.YtpeefjfklklhdaaDoor.Q
open Go.RowKit Go.Proofs.YtpeefjfklklhdaaDoorW.PrintWords Go.Proofs.YtpeefjfklklhdaaDoorW.PrintLast Go.Proofs.YtpeefjfklklhdaaDoorW.PrintMore
set_option linter.unusedVariables false
set_option linter.unusedSimpArgs false
def Got (s : ByteArray) (v : ByteArray × ByteArray × Bool) : Prop :=
  (∃ u d, v = (u, d, true) ∧ senderA u d = true ∧ textA u d = s) ∨ (v = (⟨#[]⟩, ⟨#[]⟩, false) ∧ ∀ u d, senderA u d = true → textA u d ≠ s)
theorem Got.one {s : ByteArray} {v v' : ByteArray × ByteArray × Bool} (h : Got s v) (h' : Got s v') : v = v' := by
  rcases h with ⟨u, d, rfl, h1, h2⟩ | ⟨rfl, h1⟩
  · rcases h' with ⟨u', d', rfl, h3, h4⟩ | ⟨rfl, h3⟩
    · obtain ⟨rfl, rfl⟩ := text_inj h1 h3 (h2.trans h4.symm)
      rfl
    · exact absurd h2 (h3 u d h1)
  · rcases h' with ⟨u', d', rfl, h3, h4⟩ | ⟨rfl, h3⟩
    · exact absurd h4 (h1 u' d' h3)
    · rfl
theorem sender_cases {u d : ByteArray} (h : senderA u d = true) : (u = ⟨#[]⟩ ∧ d = ⟨#[]⟩) ∨ addrL u d = true := by
  unfold senderA at h
  rw [Bool.or_eq_true] at h
  exact h.imp nullA_eq id
theorem sender_of {u d : ByteArray} (h : addrL u d = true) : senderA u d = true := by unfold senderA; rw [h, Bool.or_true]
theorem sender_null : senderA ⟨#[]⟩ ⟨#[]⟩ = true := by decide
theorem textA_inner {u d : ByteArray} (h : addrL u d = true) {s : ByteArray} (e : textA u d = s) : LL s = 60 :: ((LL u ++ 64 :: LL d) ++ [62]) := by
  rw [textA_addr h] at e
  rw [← e, LL_BB]
  unfold textL
  simp
theorem specGet_j0 (s : ByteArray) : Ev (fun k => spec_AddrGet.j0 k s true) ((⟨#[]⟩ : ByteArray), (⟨#[]⟩ : ByteArray), false) :=
  Ev.step (fun k => by rw [spec_AddrGet.j0]) (Ev.pos rfl (Ev.ret _))
theorem specAddrGet_ev (s : ByteArray) (hs : s.size ≤ 1099511627776) : ∃ v, Ev (fun k => spec_AddrGet.f k s) v ∧ Got s v := by
  have hsz := size_LL s
  unfold spec_AddrGet.f
  by_cases h0 : s = ⟨#[60, 62]⟩
  · refine ⟨_, Ev.pos (toList_BB.2 h0) (Ev.ret _), .inl ⟨_, _, rfl, sender_null, ?_⟩⟩
    rw [textA_null, h0]
  · have hno : ∀ (P : Prop), (∀ u d, addrL u d = true → textA u d = s → False) → Got s ((⟨#[]⟩ : ByteArray), (⟨#[]⟩ : ByteArray), false) := by
      intro _ hh
      refine .inr ⟨rfl, fun u d hu e => ?_⟩
      rcases sender_cases hu with ⟨rfl, rfl⟩ | hu
      · exact h0 (e.symm.trans textA_null)
      · exact hh u d hu e
    have hneg := fun e => h0 (toList_BB.1 e)
    by_cases h1 : (s.size : Int) < 2
    · refine ⟨_, Ev.neg hneg (Ev.pos h1 (specGet_j0 s)), hno True (fun u d hu e => ?_)⟩
      have := congrArg List.length (textA_inner hu e)
      rw [← hsz] at this
      simp at this
      omega
    · obtain ⟨c, hc, hcb⟩ := bt_get s 0 (by omega)
      have hcb : bt s 0 = (c.toNat : Int) := hcb
      by_cases h2 : bt s 0 = 60
      · obtain ⟨e, he, heb⟩ := bt_get s (s.size - 1) (by omega)
        have hw : wrap64 ((s.size : Int) - 1) = ((s.size - 1 : Nat) : Int) := by rw [w64 (by omega) (by omega)]; omega
        have c60 : c = 60 := u8_ext (by rw [hcb] at h2; simp; omega)
        subst c60
        by_cases h3 : e = 62
        · subst h3
          have hl : LL s = 60 :: (((LL s).drop 1).take (s.size - 2) ++ [62]) := by
            have e1 : LL s = 60 :: (LL s).drop 1 := by
              have := List.drop_eq_getElem_cons (l := LL s) (i := 0) (by omega)
              rw [List.drop_zero] at this
              rw [this]
              congr 1
              rw [List.getElem?_eq_getElem (by omega)] at hc
              exact Option.some.inj hc
            have e2 : (LL s).drop 1 = ((LL s).drop 1).take (s.size - 2) ++ [62] := by
              have hlen : ((LL s).drop 1).length = s.size - 1 := by rw [List.length_drop]; omega
              conv => lhs; rw [← List.take_append_drop (s.size - 2) ((LL s).drop 1)]
              congr 1
              rw [List.drop_drop, show 1 + (s.size - 2) = s.size - 1 by omega]
              have h5 : s.size - 1 < (LL s).length := by omega
              rw [List.drop_eq_getElem_cons h5, List.drop_of_length_le (by omega)]
              congr 1
              rw [List.getElem?_eq_getElem h5] at he
              exact Option.some.inj he
            rw [← e2]
            exact e1
          have hin : s.extract 1 ((s.size - 1 : Nat) : Int).toNat = BB (((LL s).drop 1).take (s.size - 2)) := by
            rw [Int.toNat_natCast, extract_BB, show s.size - 1 - 1 = s.size - 2 by omega]
          generalize hinn : ((LL s).drop 1).take (s.size - 2) = inn at *
          have hinl : inn.length ≤ s.size := by rw [← hinn, List.length_take, List.length_drop]; omega
          have hev : ∀ v, Ev (fun k => (spec_l1Cut.f k (BB inn) 64 2).bind fun t134 => (if (t134.length : Int) = 2 then (if 0 < (t134.length : Int) then (if 1 < (t134.length : Int) then ((spec_l1AddrOk.f k (rdOf ByteArray.empty t134 0) (rdOf ByteArray.empty t134 1)).bind fun t140 => (if t140 = true then (some (rdOf ByteArray.empty t134 0, rdOf ByteArray.empty t134 1, true)) else (some ((⟨#[]⟩ : ByteArray), (⟨#[]⟩ : ByteArray), false)))) else (none)) else (none)) else (some ((⟨#[]⟩ : ByteArray), (⟨#[]⟩ : ByteArray), false)))) v →
              Ev (fun k => if s.toList = ([60, 62] : List UInt8) then (some ((⟨#[]⟩ : ByteArray), (⟨#[]⟩ : ByteArray), true)) else (if (s.size : Int) < 2 then (spec_AddrGet.j0 k s true) else (if 0 < (s.size : Int) then (if (bt s 0) = 60 then (if 0 ≤ (wrap64 ((s.size : Int) - 1)) then (if (wrap64 ((s.size : Int) - 1)) < (s.size : Int) then (spec_AddrGet.j0 k s ((bt s (wrap64 ((s.size : Int) - 1))) != 62)) else (none)) else (none)) else (spec_AddrGet.j0 k s true)) else (none)))) v := by
            intro v hv
            refine Ev.neg hneg (Ev.neg h1 (Ev.pos (by omega) (Ev.pos h2 ?_)))
            rw [hw]
            refine Ev.pos (by omega) (Ev.pos (by omega) ?_)
            rw [heb]
            refine Ev.step (fun k => by rw [spec_AddrGet.j0]) ?_
            refine Ev.neg (by simp) ?_
            rw [hw]
            refine Ev.pos (by omega) (Ev.pos (by omega) ?_)
            rw [hin]
            exact hv
          have hcut := l1Cut_ev (BB inn) 64 2 (by omega) (by rw [size_BB]; omega)
          rw [LL_BB] at hcut
          by_cases h4 : (cuts 64 2 inn).length = 2
          · obtain ⟨a, b, hab, hlab⟩ := cuts_two (n := 0) h4
            have hab : cuts 64 2 inn = [a, b] := hab
            rw [hab] at hcut
            have ha : a.length ≤ s.size ∧ b.length ≤ s.size := by
              have := congrArg List.length hlab
              simp at this
              omega
            have hok := l1AddrOk_ev (BB a) (BB b) (by rw [size_BB]; omega) (by rw [size_BB]; omega)
            by_cases h5 : addrL (BB a) (BB b) = true
            · refine ⟨(BB a, BB b, true), hev _ (Ev.bnd hcut (Ev.pos rfl (Ev.pos (by simp) (Ev.pos (by simp) (Ev.bnd hok (Ev.pos h5 (Ev.ret _))))))), .inl ⟨_, _, rfl, sender_of h5, ?_⟩⟩
              rw [textA_addr h5, LL_BB, LL_BB]
              apply LL_inj
              rw [LL_BB, hl, hlab]
              unfold textL
              simp
            · refine ⟨_, hev _ (Ev.bnd hcut (Ev.pos rfl (Ev.pos (by simp) (Ev.pos (by simp) (Ev.bnd hok (Ev.neg h5 (Ev.ret _))))))), hno True (fun u d hu eu => ?_)⟩
              have e1 := textA_inner hu eu
              rw [hl] at e1
              have e2 := List.append_cancel_right (List.cons.inj e1).2
              rw [hlab] at e2
              have n1 := addrL_no hu 64 (by decide) (by decide)
              have hpair := cuts_pair (c := 64) n1.1 n1.2 1
              rw [← e2, ← hlab, hab] at hpair
              injection hpair with q1 q2
              injection q2 with q2 _
              apply h5
              rw [q1, q2, BB_LL, BB_LL]
              exact hu
          · refine ⟨_, hev _ (Ev.bnd hcut (Ev.neg (by rw [List.length_map]; omega) (Ev.ret _))), hno True (fun u d hu eu => ?_)⟩
            have e1 := textA_inner hu eu
            rw [hl] at e1
            have e2 := List.append_cancel_right (List.cons.inj e1).2
            have n1 := addrL_no hu 64 (by decide) (by decide)
            apply h4
            rw [e2, cuts_pair (c := 64) n1.1 n1.2 1]
            rfl
        · refine ⟨((⟨#[]⟩ : ByteArray), (⟨#[]⟩ : ByteArray), false), ?_, hno True (fun u d hu eu => ?_)⟩
          · refine Ev.neg hneg (Ev.neg h1 (Ev.pos (by omega) (Ev.pos h2 ?_)))
            rw [hw]
            refine Ev.pos (by omega) (Ev.pos (by omega) ?_)
            rw [heb, show ((e.toNat : Int) != 62) = true by rw [bne_iff_ne]; exact fun q => h3 (u8_ext (by simp; omega))]
            exact specGet_j0 s
          · have e1 := textA_inner hu eu
            apply h3
            have e2 : (LL s)[s.size - 1]? = some 62 := by
              have hlen := congrArg List.length e1
              rw [← hsz] at hlen
              simp at hlen
              rw [e1]
              rw [show s.size - 1 = ((LL u ++ 64 :: LL d).length) + 1 by simp; omega, List.getElem?_cons_succ, List.getElem?_append_right (Nat.le_refl _), Nat.sub_self]
              rfl
            rw [he] at e2
            exact Option.some.inj e2
      · refine ⟨_, Ev.neg hneg (Ev.neg h1 (Ev.pos (by omega) (Ev.neg h2 (specGet_j0 s)))), hno True (fun u d hu eu => ?_)⟩
        have e1 := textA_inner hu eu
        rw [e1] at hc
        apply h2
        rw [hcb, ← Option.some.inj hc]
        rfl
theorem implAddrGet_ev (s : ByteArray) (hs : s.size ≤ 4294967280) : ∃ v, Ev (fun k => impl_AddrGet.f k s) v ∧ Got s v := by
  have hsz := size_LL s
  unfold impl_AddrGet.f
  by_cases h1 : Lib.hasPrefix (LL s) [60] = true
  · obtain ⟨t, ht⟩ := (hasPrefix_one _ _).1 h1
    have hcp : strings_CutPrefix.f s ⟨#[60]⟩ = some (BB t, true) := by
      rw [cutPrefix_f, if_pos (by exact h1), show (⟨#[60]⟩ : ByteArray).size = 1 from rfl, ht]
      rfl
    have htl : t.length + 1 = s.size := by rw [hsz, ht]; rfl
    have hts := trimSuffix_f (BB t) ⟨#[62]⟩ (by rw [size_BB]; omega) (by decide)
    obtain ⟨x, hx, hxl⟩ : ∃ x, strings_TrimSuffix.f (BB t) ⟨#[62]⟩ = some (BB x) ∧ (x.length ≤ t.length ∧ ∀ y, t = y ++ [62] → x = y) := by
      have hts' : strings_TrimSuffix.f (BB t) ⟨#[62]⟩ = some (if 1 ≤ t.length ∧ t.drop (t.length - 1) = [62] then BB (t.take (t.length - 1)) else BB t) := hts
      rw [hts']
      by_cases h : 1 ≤ t.length ∧ t.drop (t.length - 1) = [62]
      · rw [if_pos h]
        refine ⟨_, rfl, by rw [List.length_take]; omega, fun y hy => ?_⟩
        rw [hy]
        simp
      · rw [if_neg h]
        refine ⟨t, rfl, Nat.le_refl _, fun y hy => absurd ?_ h⟩
        rw [hy]
        simp
    have hcut : strings_Cut.f (BB x) ⟨#[64]⟩ = some (BB (Lib.cut x [64]).1, BB (Lib.cut x [64]).2.1, (Lib.cut x [64]).2.2) := by
      unfold strings_Cut.f
      rw [if_pos (by rw [size_BB]; omega)]
    have hcl : (Lib.cut x [64]).1.length ≤ x.length ∧ (Lib.cut x [64]).2.1.length ≤ x.length := by
      have hge := Lib.index_ge x [64]
      by_cases hm : Lib.index x [64] = -1
      · unfold Lib.cut
        rw [hm]
        simp
      · obtain ⟨i, hi⟩ : ∃ i : Nat, Lib.index x [64] = i := ⟨(Lib.index x [64]).toNat, by omega⟩
        unfold Lib.cut
        rw [hi]
        simp [List.length_take, List.length_drop]
        omega
    generalize hu0 : BB (Lib.cut x [64]).1 = u0 at hcut
    generalize hd0 : BB (Lib.cut x [64]).2.1 = d0 at hcut
    have su : u0.size ≤ 4294967280 := by rw [← hu0, size_BB]; omega
    have sd : d0.size ≤ 4294967280 := by rw [← hd0, size_BB]; omega
    have hno : ¬ (senderA u0 d0 = true ∧ textA u0 d0 = s) → Got s ((⟨#[]⟩ : ByteArray), (⟨#[]⟩ : ByteArray), false) := by
      intro hh
      refine .inr ⟨rfl, fun u d hu e => hh ?_⟩
      rcases sender_cases hu with ⟨rfl, rfl⟩ | hu
      · rw [textA_null] at e
        have : t = [] ++ [62] := by
          have := congrArg LL e
          rw [ht] at this
          exact ((List.cons.inj this).2).symm
        have hx0 := hxl.2 [] this
        rw [hx0] at hu0 hd0
        have e1 : u0 = ⟨#[]⟩ := hu0.symm.trans (by rw [cut_no (by simp)])
        have e2 : d0 = ⟨#[]⟩ := hd0.symm.trans (by rw [cut_no (by simp)])
        rw [e1, e2]
        exact ⟨sender_null, e⟩
      · have e1 := textA_inner hu e
        rw [ht] at e1
        have hx0 := hxl.2 _ (List.cons.inj e1).2
        have n1 := addrL_no hu 64 (by decide) (by decide)
        rw [hx0, cut_at n1.1] at hu0 hd0
        have e2 : u0 = u := by rw [← hu0, BB_LL]
        have e3 : d0 = d := by rw [← hd0, BB_LL]
        rw [e2, e3]
        exact ⟨sender_of hu, e⟩
    by_cases h2 : senderA u0 d0 = true
    · by_cases h3 : textA u0 d0 = s
      · exact ⟨(u0, d0, true), Ev.bnd (Ev.k hcp) (Ev.bnd (Ev.k hx) (Ev.bnd (Ev.k hcut) (Ev.pos rfl (Ev.bnd (sender_ev u0 d0 su sd) (Ev.pos h2 (Ev.bnd (Ev.k (text_f u0 d0 (by omega) (by omega))) (Ev.pos (toList_eq.2 h3) (Ev.ret _)))))))), .inl ⟨_, _, rfl, h2, h3⟩⟩
      · exact ⟨_, Ev.bnd (Ev.k hcp) (Ev.bnd (Ev.k hx) (Ev.bnd (Ev.k hcut) (Ev.pos rfl (Ev.bnd (sender_ev u0 d0 su sd) (Ev.pos h2 (Ev.bnd (Ev.k (text_f u0 d0 (by omega) (by omega))) (Ev.neg (fun q => h3 (toList_eq.1 q)) (Ev.ret _)))))))), hno (fun q => h3 q.2)⟩
    · exact ⟨_, Ev.bnd (Ev.k hcp) (Ev.bnd (Ev.k hx) (Ev.bnd (Ev.k hcut) (Ev.pos rfl (Ev.bnd (sender_ev u0 d0 su sd) (Ev.neg h2 (Ev.ret _)))))), hno (fun q => h2 q.1)⟩
  · have hcp : strings_CutPrefix.f s ⟨#[60]⟩ = some (s, false) := by rw [cutPrefix_f, if_neg (by exact h1)]
    obtain ⟨x, hx, hxl⟩ : ∃ x, strings_TrimSuffix.f s ⟨#[62]⟩ = some (BB x) ∧ x.length ≤ s.size := by
      rw [trimSuffix_f s ⟨#[62]⟩ (by omega) (by decide)]
      split
      · exact ⟨_, rfl, by rw [List.length_take]; omega⟩
      · exact ⟨LL s, by rw [BB_LL], by omega⟩
    have hcut : strings_Cut.f (BB x) ⟨#[64]⟩ = some (BB (Lib.cut x [64]).1, BB (Lib.cut x [64]).2.1, (Lib.cut x [64]).2.2) := by
      unfold strings_Cut.f
      rw [if_pos (by rw [size_BB]; omega)]
    refine ⟨_, Ev.bnd (Ev.k hcp) (Ev.bnd (Ev.k hx) (Ev.bnd (Ev.k hcut) (Ev.neg (by simp) (Ev.ret _)))), .inr ⟨rfl, fun u d hu e => h1 ?_⟩⟩
    rw [hasPrefix_one]
    rcases sender_cases hu with ⟨rfl, rfl⟩ | hu
    · rw [textA_null] at e
      exact ⟨[62], by rw [← e]⟩
    · exact ⟨_, textA_inner hu e⟩
theorem addrGet_ev (s : ByteArray) (hs : s.size ≤ 4294967280) : ∃ v, Ev (fun k => spec_AddrGet.f k s) v ∧ Ev (fun k => impl_AddrGet.f k s) v ∧ Got s v := by
  obtain ⟨v, h1, h2⟩ := specAddrGet_ev s (by omega)
  obtain ⟨v', h3, h4⟩ := implAddrGet_ev s hs
  rw [Got.one h4 h2] at h3
  exact ⟨v, h1, h3, h2⟩
end Go.Proofs.YtpeefjfklklhdaaDoor.Q
