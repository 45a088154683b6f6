/- Of a text of ours what this claim needs. -/
import Derived.Test.YthkibaldmjfmmaaDoorZzFnCliNewSHBec
import Derived.Test.YthkibaldmjfmmaaDoorZzFnCliNewSQ11
import Derived.Test.YthkibaldmjfmmaaDoorZzFnCliNewSQ22
import Derived.Test.YthkibaldmjfmmaaDoorZzFnCliNewSWApart
import Derived.Test.YthkibaldmjfmmaaDoorZzFnCliNewSWWords
import Derived.WalkKit
import Derived.BigCall
namespace Go.Proofs.YthkibaldmjfmmaaDoor.Q
open Go.RowKit Go.Proofs.YthkibaldmjfmmaaDoorW.PrintWords Go.Proofs.YthkibaldmjfmmaaDoorW.PrintLast Go.Proofs.YthkibaldmjfmmaaDoorW.PrintMore
set_option linter.unusedVariables false
set_option linter.unusedSimpArgs false
def impl_CliOuts.f (k : Nat) (a0_0 : ByteArray) (a0_1 : ByteArray) (a0_2 : ByteArray) (l0_3 : List (S30)) (l0_4 : List ByteArray) (a0_5 : Int) (a0_6 : Int) (l0_7 : List Int) : Option (List Int) :=
  (impl_CliOk.f k a0_0 a0_1 a0_2 l0_3 l0_4 a0_5 a0_6 l0_7).bind fun t => if t = true then (impl_Cli_copied.f a0_0 a0_1 a0_2 l0_3 l0_4 a0_5 a0_6 l0_7).bind fun c => (if c.2.2.2.2.2.2.2.length ≤ 1099511627776 then some (c.2.2.2.2.2.2.2.map outTo) else none) else some []
set_option maxHeartbeats 4000000 in
set_option maxRecDepth 100000 in
theorem impl_CliOuts.calls (k : Nat) (a0_0 : ByteArray) (a0_1 : ByteArray) (a0_2 : ByteArray) (A0_3 : Option Addr) (c0_3 : Nat) (l0_3 : List (S30)) (A0_4 : Option Addr) (c0_4 : Nat) (l0_4 : List ByteArray) (a0_5 : Int) (a0_6 : Int) (A0_7 : Option Addr) (c0_7 : Nat) (l0_7 : List Int) (r : List Int) (w : World) (hr0_3 : Kd.C k30 w A0_3 l0_3.length l0_3) (hc0_3 : l0_3.length ≤ c0_3) (hr0_4 : Kd.C Kd.string w A0_4 l0_4.length l0_4) (hc0_4 : l0_4.length ≤ c0_4) (hr0_7 : Kd.C (Kd.int .i64) w A0_7 l0_7.length l0_7) (hc0_7 : l0_7.length ≤ c0_7) (hG : GOK w) (h : impl_CliOuts.f k a0_0 a0_1 a0_2 l0_3 l0_4 a0_5 a0_6 l0_7 = some r) :
    Calls Tryd.prog 38 #[.agg #[.string a0_0, .string a0_1, .string a0_2, .slice A0_3 l0_3.length c0_3, .slice A0_4 l0_4.length c0_4, .int .i64 a0_5, .int .i64 a0_6, .slice A0_7 l0_7.length c0_7]] w fun e w' => ∃ v0_ : Value, e = .returned v0_ ∧ Kd.R (Kd.int .i64) 3 w' w.heap.size (fun _ => True) v0_ r ∧ Below w.heap.size w w' := by
  have hu67 := Tryd.underlying67
  have hu33 := Tryd.underlying33
  have HR3 := Aside0.mk hr0_3
  have HC3 := Aside0.mk hc0_3
  have HR4 := Aside0.mk hr0_4
  have HC4 := Aside0.mk hc0_4
  have HR7 := Aside0.mk hr0_7
  have HC7 := Aside0.mk hc0_7
  have HG := Aside0.mk hG
  clear hr0_3 hc0_3 hr0_4 hc0_4 hr0_7 hc0_7 hG
  unfold impl_CliOuts.f at h
  obtain ⟨t, A3, H⟩ := Option.bind_eq_some_iff.mp h
  replace A3 := Aside0.mk A3
  clear h
  by_cases ct : t = true
  · subst ct
    rw [if_pos rfl] at H
    obtain ⟨⟨t1, t2, t3, t4, t5, t6, t7, t8⟩, A4, H⟩ := Option.bind_eq_some_iff.mp H
    replace A4 := Aside0.mk A4
    replace H : (if t8.length ≤ 1099511627776 then some (t8.map outTo) else none) = some r := H
    by_cases hl : t8.length ≤ 1099511627776
    · rw [if_pos hl] at H
      obtain rfl := Option.some.inj H
      have HL := Aside0.mk hl
      clear H hl
      go_enter Tryd.func38, Tryd.ntmps38
      go_wp2_with (first
        | ((with_reducible refine zq21 (N := 1) rfl ?_); refine zq23 ?hg (N := 1) ?hd (cs := #[.string a0_0, .string a0_1, .string a0_2, .slice A0_3 l0_3.length c0_3, .slice A0_4 l0_4.length c0_4, .int .i64 a0_5, .int .i64 a0_6, .slice A0_7 l0_7.length c0_7]) (t := 67) ?hr ?_; (case hd => rfl); (case hg => rfl); (case hr => first | (go_simp; done) | (go_simp; rfl)); intro gb hg w1 hbox hb; have BK1 := Aside0.mk hbox; have HB1 := Aside0.mk hb; clear hbox hb hg; have hb0 := (zq1 BK1.out 0).trans rfl; have hb1 := (zq1 BK1.out 1).trans rfl; have hb2 := (zq1 BK1.out 2).trans rfl; have hb3 := (zq1 BK1.out 3).trans rfl; have hb4 := (zq1 BK1.out 4).trans rfl; have hb5 := (zq1 BK1.out 5).trans rfl; have hb6 := (zq1 BK1.out 6).trans rfl; have hb7 := (zq1 BK1.out 7).trans rfl)
        | (go_at_call 32; (with_reducible refine (impl_CliOk.calls k a0_0 a0_1 a0_2 A0_3 c0_3 l0_3 A0_4 c0_4 l0_4 a0_5 a0_6 A0_7 c0_7 l0_7 true _ (Kd.z1 HR3.out HB1.out) HC3.out (Kd.z1 HR4.out HB1.out) HC4.out (Kd.z1 HR7.out HB1.out) HC7.out (GOK.below HG.out HB1.out) A3.out).mono ?_); rintro e w2 ⟨rfl, hb⟩; have BK2 := Aside0.mk (zq13 BK1.out hb); have HB2 := Aside0.mk (zq11 HB1.out hb); clear hb hb0 hb1 hb2 hb3 hb4 hb5 hb6 hb7; have hb0 := (zq1 BK2.out 0).trans rfl; have hb1 := (zq1 BK2.out 1).trans rfl; have hb2 := (zq1 BK2.out 2).trans rfl; have hb3 := (zq1 BK2.out 3).trans rfl; have hb4 := (zq1 BK2.out 4).trans rfl; have hb5 := (zq1 BK2.out 5).trans rfl; have hb6 := (zq1 BK2.out 6).trans rfl; have hb7 := (zq1 BK2.out 7).trans rfl)
        | (go_at_call 86; (with_reducible refine (impl_Cli_copied.calls a0_0 a0_1 a0_2 A0_3 c0_3 l0_3 A0_4 c0_4 l0_4 a0_5 a0_6 A0_7 c0_7 l0_7 t1 t2 t3 t4 t5 t6 t7 t8 _ (Kd.z1 HR3.out HB2.out) HC3.out (Kd.z1 HR4.out HB2.out) HC4.out (Kd.z1 HR7.out HB2.out) HC7.out A4.out).mono ?_); rintro e w3 ⟨v3, v4, v7, rfl, ho3, ho4, ho7, hb⟩; obtain ⟨Ax3, cx3, ex3⟩ := Kd.z13 ho3; subst ex3; obtain ⟨Ax4, cx4, ex4⟩ := Kd.z13 ho4; subst ex4; obtain ⟨Ax7, cx7, ex7⟩ := Kd.z13 ho7; subst ex7; have HO3 := Aside0.mk (Kd.z10 ho7 (zq14 HB2.out)); have HB3 := Aside0.mk (zq11 HB2.out hb); clear hb ho3 ho4 ho7 hb0 hb1 hb2 hb3 hb4 hb5 hb6 hb7)
        | ((with_reducible refine zq21 (N := 3) rfl ?_); refine zq23 ?hg (N := 3) ?hd (cs := #[.string ⟨#[]⟩, .string ⟨#[]⟩, .string ⟨#[]⟩, .slice none 0 0, .slice none 0 0, .int .i64 0, .int .i64 0, .slice none 0 0]) (t := 67) ?hr ?_; (case hd => rfl); (case hg => rfl); (case hr => first | (go_simp; done) | (go_simp; rfl)); intro g hg w4 hbox hb; have BK4 := Aside0.mk hbox; have HO4 := Aside0.mk (Kd.z14 (Kd.z5 HO3.out hb) BK4.out (by decide)); have GE4 : Aside0 (w.heap.size ≤ g) := ⟨by rw [hg]; exact zq14 HB3.out⟩; have HB4 := Aside0.mk (zq11 HB3.out hb); clear hbox hb hg)
        | ((with_reducible refine gate_store (t := 67) (p := 3) rfl ?_); refine store_event (t := 67) (p := 3) (v := ?vo) (w1 := ((((((((w4.setCell ⟨g, 0, none⟩ (.string t1)).setCell ⟨g, 1, none⟩ (.string t2)).setCell ⟨g, 2, none⟩ (.string t3)).setCell ⟨g, 3, none⟩ (.slice Ax3 t4.length cx3)).setCell ⟨g, 4, none⟩ (.slice Ax4 t5.length cx4)).setCell ⟨g, 5, none⟩ (.int .i64 t6)).setCell ⟨g, 6, none⟩ (.int .i64 t7)).setCell ⟨g, 7, none⟩ (.slice Ax7 t8.length cx7))) ?hg ?ho ?hn ?hr ?_; (case ho => rfl); (case hg => rfl); (case hn => rfl); (case hr => (have hz0 := (zq1 BK4.out 0).trans rfl; have hz1 := (zq1 BK4.out 1).trans rfl; have hz2 := (zq1 BK4.out 2).trans rfl; have hz3 := (zq1 BK4.out 3).trans rfl; have hz4 := (zq1 BK4.out 4).trans rfl; have hz5 := (zq1 BK4.out 5).trans rfl; have hz6 := (zq1 BK4.out 6).trans rfl; have hz7 := (zq1 BK4.out 7).trans rfl; have hf0 := zq7 BK4.out 0; have hf1 := zq7 BK4.out 1; have hf2 := zq7 BK4.out 2; have hf3 := zq7 BK4.out 3; have hf4 := zq7 BK4.out 4; have hf5 := zq7 BK4.out 5; have hf6 := zq7 BK4.out 6; have hf7 := zq7 BK4.out 7; first | (go_simp; done) | (go_simp; rfl))); intro w5 hw5; have BK5 : Aside0 (w5.heap[g]? = some (.cells (cliCs t1 t2 t3 (.slice Ax3 t4.length cx3) (.slice Ax4 t5.length cx4) t6 t7 (.slice Ax7 t8.length cx7)) 67 (0, 0))) := ⟨by rw [hw5]; exact (blk_set (blk_set (blk_set (blk_set (blk_set (blk_set (blk_set (blk_set BK4.out 0 _) 1 _) 2 _) 3 _) 4 _) 5 _) 6 _) 7 _)⟩; have HO5 : Aside0 (Kd.R (Kd.int .i64) 3 w5 w.heap.size (fun k => True ∧ k ≠ g) (.slice Ax7 t8.length cx7) t8) := ⟨by rw [hw5]; exact (Kd.z8 (p := ⟨g, 7, none⟩) (Kd.z8 (p := ⟨g, 6, none⟩) (Kd.z8 (p := ⟨g, 5, none⟩) (Kd.z8 (p := ⟨g, 4, none⟩) (Kd.z8 (p := ⟨g, 3, none⟩) (Kd.z8 (p := ⟨g, 2, none⟩) (Kd.z8 (p := ⟨g, 1, none⟩) (Kd.z8 (p := ⟨g, 0, none⟩) HO4.out (fun _ hk => hk.2) _) (fun _ hk => hk.2) _) (fun _ hk => hk.2) _) (fun _ hk => hk.2) _) (fun _ hk => hk.2) _) (fun _ hk => hk.2) _) (fun _ hk => hk.2) _) (fun _ hk => hk.2) _)⟩; have HB5 : Aside0 (Below w.heap.size w w5) := ⟨by rw [hw5]; exact (zq2 (zq2 (zq2 (zq2 (zq2 (zq2 (zq2 (zq2 HB4.out GE4.out) GE4.out) GE4.out) GE4.out) GE4.out) GE4.out) GE4.out) GE4.out)⟩; clear hw5)
        | (go_at_call 87; refine (become_calls g w5.heap.size t1 t2 t3 _ _ t6 t7 Ax7 cx7 t8 w _ (zq5 BK5.out _) (blk_new w5 _) (Kd.z11 (Kd.z4 (Kd.R_bound HO5.out) _) (fun k hk => ⟨hk.1.2, Nat.ne_of_lt hk.2.2.1⟩)) HL.out (zq4 HB5.out _)).mono ?_; rintro e w7 ⟨rfl, hO7, hBK7, hB7⟩; have HO7 := Aside0.mk hO7; have HB7 := Aside0.mk hB7; have hc7 := (zq1 hBK7 7).trans rfl; clear hO7 hB7 hBK7))
      go_ret
      exact ⟨_, rfl, by have h7 := Kd.z11 HO7.out (fun _ _ => trivial); exact h7, HB7.out⟩
    · rw [if_neg hl] at H
      cases H
  · rw [if_neg ct] at H
    replace ct := Bool.eq_false_iff.mpr ct
    subst ct
    obtain rfl := Option.some.inj H
    clear H
    go_enter Tryd.func38, Tryd.ntmps38
    go_wp2_with (first
      | ((with_reducible refine zq21 (N := 1) rfl ?_); refine zq23 ?hg (N := 1) ?hd (cs := #[.string a0_0, .string a0_1, .string a0_2, .slice A0_3 l0_3.length c0_3, .slice A0_4 l0_4.length c0_4, .int .i64 a0_5, .int .i64 a0_6, .slice A0_7 l0_7.length c0_7]) (t := 67) ?hr ?_; (case hd => rfl); (case hg => rfl); (case hr => first | (go_simp; done) | (go_simp; rfl)); intro gb hg w1 hbox hb; have BK1 := Aside0.mk hbox; have HB1 := Aside0.mk hb; clear hbox hb hg; have hb0 := (zq1 BK1.out 0).trans rfl; have hb1 := (zq1 BK1.out 1).trans rfl; have hb2 := (zq1 BK1.out 2).trans rfl; have hb3 := (zq1 BK1.out 3).trans rfl; have hb4 := (zq1 BK1.out 4).trans rfl; have hb5 := (zq1 BK1.out 5).trans rfl; have hb6 := (zq1 BK1.out 6).trans rfl; have hb7 := (zq1 BK1.out 7).trans rfl)
      | (go_at_call 32; (with_reducible refine (impl_CliOk.calls k a0_0 a0_1 a0_2 A0_3 c0_3 l0_3 A0_4 c0_4 l0_4 a0_5 a0_6 A0_7 c0_7 l0_7 false _ (Kd.z1 HR3.out HB1.out) HC3.out (Kd.z1 HR4.out HB1.out) HC4.out (Kd.z1 HR7.out HB1.out) HC7.out (GOK.below HG.out HB1.out) A3.out).mono ?_); rintro e w2 ⟨rfl, hb⟩; have HB2 := Aside0.mk (zq11 HB1.out hb); clear hb))
    go_ret
    exact ⟨_, rfl, Kd.R_nil _ _ _ _ _, HB2.out⟩
end Go.Proofs.YthkibaldmjfmmaaDoor.Q
