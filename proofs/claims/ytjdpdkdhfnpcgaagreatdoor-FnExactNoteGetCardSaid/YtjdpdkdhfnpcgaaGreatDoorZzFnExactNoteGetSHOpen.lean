/- Of a text of ours what this claim needs. -/
import Derived.Test.YtjdpdkdhfnpcgaaGreatDoorZzFnExactNoteGetSQ0
import Derived.SliceStrings
import Derived.ChangeOld
import Derived.SizedLaws
import Derived.DataReads
namespace Go.Proofs.YtjdpdkdhfnpcgaaGreatDoor.Q
open Go.RowKit Go.Proofs.YtjdpdkdhfnpcgaaGreatDoorW.PrintWords Go.Proofs.YtjdpdkdhfnpcgaaGreatDoorW.PrintLast Go.Proofs.YtjdpdkdhfnpcgaaGreatDoorW.PrintMore
set_option linter.unusedVariables false
theorem choose_list {α : Type} (Q : Nat → α → Prop) : ∀ n : Nat, (∀ i, i < n → ∃ a, Q i a) → ∃ l : List α, l.length = n ∧ ∀ i a, l[i]? = some a → Q i a
  | 0, _ => ⟨[], rfl, fun i a h => by simp at h⟩
  | n + 1, h => by
    obtain ⟨l, hl, hq⟩ := choose_list Q n (fun i hi => h i (by omega))
    obtain ⟨a, ha⟩ := h n (by omega)
    refine ⟨l ++ [a], by simp [hl], fun i b hb => ?_⟩
    rcases Nat.lt_or_ge i l.length with hi | hi
    · rw [List.getElem?_append_left hi] at hb
      exact hq i b hb
    · have : i = l.length := by
        have := (List.getElem?_eq_some_iff.1 hb).1
        simp at this
        omega
      subst this
      have : a = b := by simpa using hb
      subst this
      rw [hl]
      exact ha
structure Opens {α : Type} (P : Program) (d : Kd α) (t : TypeId) (bd : α → Prop) : Prop where
  out : ∀ {H : Type} {enc : TypeId × Value → H} {w : World} {base : Nat} {spare : Nat → Bool} {held : Bool} {fuel : Nat} {cs : List Value} {x : DataW H × List MemPlace},
    DataW.trod enc P w base spare held fuel t cs = some x → ∃ a, d.K w a cs ∧ bd a
theorem Opens.int {P : Program} {t : TypeId} {k : IntKind} (ht : P.underlying t = some (.int k)) : Opens P (Kd.int k) t (fun n => (Lit.int k n).wf = true) :=
  ⟨fun h => by obtain ⟨n, rfl, _, hw⟩ := DataW.trod_int ht h; exact ⟨n, rfl, hw⟩⟩
theorem Opens.bool {P : Program} {t : TypeId} (ht : P.underlying t = some .bool) : Opens P Kd.bool t (fun _ => True) :=
  ⟨fun h => by obtain ⟨n, rfl, _⟩ := DataW.trod_bool ht h; exact ⟨n, rfl, trivial⟩⟩
theorem Opens.string {P : Program} {t : TypeId} (ht : P.underlying t = some .string) : Opens P Kd.string t (fun s => s.size ≤ maxLen) :=
  ⟨fun h => by obtain ⟨s, rfl, _, hs⟩ := DataW.trod_string ht h; exact ⟨s, rfl, hs⟩⟩
theorem cells_each {w : World} {base : Nat} {a : Addr} {n : Nat} {cs : List Value} (h : w.cells? base a n = some cs) : cs.length = n ∧ ∀ i u, cs[i]? = some u → w.cell? (a.add i) = some u := by
  obtain ⟨hb, hl, hc⟩ := World.cells?_some h
  refine ⟨hl, fun i u hu => ?_⟩
  rw [hc i (by have := (List.getElem?_eq_some_iff.1 hu).1; omega), hu]
theorem Opens.slice {α : Type} {P : Program} {d : Kd α} {t e : TypeId} {bd : α → Prop} (ht : P.underlying t = some (.slice e)) (hsz : P.cellsOf e = d.sz) (h : Opens P d e bd) :
    Opens P (Kd.slice e d) t (fun l => l.length ≤ maxLen ∧ ∀ a ∈ l, bd a) := by
  refine ⟨fun {H enc w base spare held fuel cs x} hx => ?_⟩
  rcases DataW.trod_slice ht hx with ⟨rfl, _⟩ | ⟨a, len, cap, elems, rest, n, _, rfl, rfl, hb, hl, hm, hlen, hel, _, _⟩
  · exact ⟨[], ⟨none, 0, rfl, Nat.le_refl _, rfl, by simp, fun h => absurd h (Nat.lt_irrefl 0)⟩, by simp, by simp⟩
  · obtain ⟨l, hll, hq⟩ := choose_list (fun i (z : α) => bd z ∧ ∃ c, c.length = d.sz ∧ d.K w z c ∧ ∀ j u, c[j]? = some u → w.cell? (a.add (i * d.sz + j)) = some u) len (fun i hi => by
      have he := hel i hi
      obtain ⟨y, hy⟩ : ∃ y, elems[i]? = some y := ⟨_, List.getElem?_eq_getElem (by omega)⟩
      rw [hy, Option.bind_eq_some_iff] at he
      obtain ⟨c, hc, hc2⟩ := he
      obtain ⟨z, hz, hbd⟩ := h.out hc2
      obtain ⟨h1, h2⟩ := cells_each hc
      refine ⟨z, hbd, c, by rw [h1, hsz], hz, fun j u hu => ?_⟩
      have := h2 j u hu
      rw [add_add, hsz] at this
      exact this)
    subst hll
    refine ⟨l, ⟨some a, cap, rfl, hl, rfl, by unfold maxLen at hm; omega, fun _ => ⟨a, rfl, fun j p hj => (hq j p hj).2⟩⟩, Nat.le_trans hl hm, fun z hz => ?_⟩
    obtain ⟨i, hi, rfl⟩ := List.getElem_of_mem hz
    exact (hq i _ (List.getElem?_eq_getElem hi)).1
end Go.Proofs.YtjdpdkdhfnpcgaaGreatDoor.Q
