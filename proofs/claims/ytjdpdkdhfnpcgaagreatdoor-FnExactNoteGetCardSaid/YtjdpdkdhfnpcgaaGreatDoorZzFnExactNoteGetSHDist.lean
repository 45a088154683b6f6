/- Of a text of ours what this claim needs. -/
import Derived.Test.YtjdpdkdhfnpcgaaGreatDoorZzFnExactNoteGetSQ0
import Derived.Maps.OwnSet
import Derived.DeepKeys4
import Derived.WalkKit
namespace Go.Proofs.YtjdpdkdhfnpcgaaGreatDoor.Q
open Go.RowKit Go.Proofs.YtjdpdkdhfnpcgaaGreatDoorW.PrintWords Go.Proofs.YtjdpdkdhfnpcgaaGreatDoorW.PrintLast Go.Proofs.YtjdpdkdhfnpcgaaGreatDoorW.PrintMore
open Go.Maps Go.WideMaps
set_option linter.unusedVariables false
set_option linter.unusedSimpArgs false
abbrev DA := S24
theorem dLaidOut : laidOutB Tryz.prog = true := by kernel_rfl
theorem dRow : (24 : TypeId) < Tryz.prog.types.size := of_decide_eq_true (by kernel_rfl)
theorem dCells : Tryz.prog.cellsOf 24 = 2 := by kernel_rfl
theorem dWide : (match Tryz.prog.underlying 24 with | some (.array _ _) | some (.struct _) => true | _ => false) = true := by rw [Tryz.underlying24]
set_option maxRecDepth 100000 in
theorem dLaw : KeyLaw Tryz.prog 24 := deep_law_laid dLaidOut (m := 2) (by omega) dRow (by kernel_rfl) dWide
theorem dKeyed : Keyed Tryz.prog 24 := Keyed.of_law dLaw
def klA (x : DA) : Lit := .string (keyBytes [.string x.f0.data.toList, .string x.f1.data.toList])
theorem keyLits_str (d : Nat) {s : ByteArray} (hs : s.size ≤ maxLen) : Tryz.prog.keyLits (d + 1) 9 [.string s] = some [.string s.data.toList] := by
  unfold Program.keyLits
  rw [Tryz.underlying9]
  simp [hs]
theorem keyOfA {x : DA} (h0 : x.f0.size ≤ maxLen) (h1 : x.f1.size ≤ maxLen) : keyOf Tryz.prog 24 (.agg #[.string x.f0, .string x.f1]) = some (klA x) := by
  have hk : Tryz.prog.keyType 24 = true := by kernel_rfl
  have hf : (Value.agg #[.string x.f0, .string x.f1]).formed Tryz.prog 24 = true := by simp [Value.formed, Tryz.underlying24, dCells]
  have hs : Tryz.prog.cellsOf 9 = 1 := by kernel_rfl
  obtain ⟨m, hm⟩ : ∃ m, Tryz.prog.types.size + 1 = m + 2 := by
    cases h : Tryz.prog.types.size with
    | zero => have := dRow; rw [h] at this; exact absurd this (Nat.not_lt_zero _)
    | succ n => exact ⟨n, rfl⟩
  unfold keyOf
  rw [Tryz.underlying24]
  simp only [hk, hf, Bool.and_self, if_true]
  rw [hm]
  unfold Program.keyLits
  rw [Tryz.underlying24]
  simp [Value.cells, dCells, hs, keyLits_str m h0, keyLits_str m h1, klA]
def sA {H : Type} (l : List DA) (k : Nat) : DataW H := setOf (.lit (.bool true)) ((l.take k).map klA)
theorem sA_succ {H : Type} (l : List DA) (k : Nat) (hk : k < l.length) : sA (H := H) l (k + 1) = (sA l k).put (klA l[k]) (.lit (.bool true)) := by
  unfold sA
  rw [List.take_succ_eq_append_getElem hk, List.map_append, List.map_singleton, setOf_snoc]
theorem sA_zero {H : Type} (l : List DA) : sA (H := H) l 0 = .map [] := by simp [sA, setOf]
theorem dRd (l : List DA) (i : Nat) (h : i < l.length) : zq6 l (i : Int) = l[i] := by
  unfold zq6
  rw [Int.toNat_natCast, List.getD_eq_getElem?_getD, List.getElem?_eq_getElem h]
  rfl
set_option maxHeartbeats 4000000 in
set_option maxRecDepth 100000 in
theorem distinct_walk (A0 : Option Addr) (c0 : Nat) (l0 : List DA) (w : World) (hr0 : Kd.C k24 w A0 l0.length l0) (hc0 : l0.length ≤ c0) (hlen : l0.length < maxLen)
    (hsz : ∀ x ∈ l0, x.f0.size ≤ maxLen ∧ x.f1.size ≤ maxLen) :
    Calls Tryz.prog 68 #[.slice A0 l0.length c0] w fun e w' => e = .returned (.bool ((Maps.size (sA (H := Unit) l0 l0.length) : Int) == (l0.length : Int))) ∧ Below w.heap.size w w' := by
  have hmm := @run_makeMap Tryz.prog
  have hR := Aside0.mk hr0
  have hm : l0.length ≤ 9223372036854775807 := hr0.2.1
  clear hr0
  go_enter Tryz.func68, Tryz.ntmps68
  go_wp2
  go_loopw [9] (fun i wr => ∃ k : Nat, k ≤ l0.length ∧ i = .int .i64 k ∧ wr.ownsMap Tryz.prog 24 (plainElem Tryz.prog 4) w.heap.size k (sA (H := Unit) l0 k) ∧ Below w.heap.size w wr)
    (fun i _ => l0.length - (intOf i).toNat)
  case atStart => exact ⟨0, Nat.zero_le _, rfl, by rw [sA_zero]; exact World.ownsMap_made _ _ _ _, (Below.refl _ _).alloc (Nat.le_refl _) _⟩
  case round =>
    obtain ⟨k, hk, rfl, hown, hnx⟩ := hrel
    by_cases hlt : k < l0.length
    · obtain ⟨ad, e, hx0, hx1⟩ := at_T24 hR.out (k : Int) (by omega) (by omega)
      cases e
      rw [dRd l0 k hlt] at hx0 hx1
      have hz := hsz l0[k] (List.getElem_mem hlt)
      have hkey := keyOfA hz.1 hz.2
      replace hx0 := (hnx.cell (World.block_lt_of_cell? w _ hx0)).trans hx0
      replace hx1 := (hnx.cell (World.block_lt_of_cell? w _ hx1)).trans hx1
      rw [Int.toNat_natCast] at hx0 hx1
      go_wp2_with (first
        | (at_mapUpdate; refine wpList_mapUpdate_own _ rfl _ _ _ 132 rfl 24 4 dKeyed Tryz.underlying132 (plainElem (H := Unit) Tryz.prog 4) w.heap.size k (sA l0 k) rfl (hown.alloc _) (by omega) _ _ _ rfl rfl hkey _ [] (plainElem_bool Tryz.underlying4 true) ?_; intro w1 hown1 hgrow1)
        | go_in)
      go_roundw
      case rel => exact ⟨k + 1, by omega, by go_num, (sA_succ l0 k hlt).symm ▸ hown1, (hnx.alloc hnx.size _).grown hgrow1 (by simp; have := hnx.size; omega) (fun j hj => by cases hj; exact Nat.le_refl _)⟩
      case measure => simp [intOf]; omega
    · have hkl : k = l0.length := by omega
      subst hkl
      go_wp2_with (first
        | (at_len; refine wpList_len_own _ rfl _ 132 rfl 24 4 Tryz.underlying132 _ w.heap.size _ _ rfl hown ?_)
        | go_in)
      go_ret
      exact ⟨rfl, hnx⟩
theorem klA_key (x : DA) : WideAt.IsKeyLit (klA x) := trivial
theorem klA_inj {x y : DA} (hx : x.f0.size ≤ maxLen ∧ x.f1.size ≤ maxLen) (hy : y.f0.size ≤ maxLen ∧ y.f1.size ≤ maxLen) (h : klA x = klA y) : (x.f0, x.f1) = (y.f0, y.f1) := by
  have := dLaw.inj (keyOfA hx.1 hx.2) (by rw [h]; exact keyOfA hy.1 hy.2)
  simpa using this
theorem sA_keys (l : List DA) (k : Nat) : ∀ x ∈ (l.take k).map klA, WideAt.IsKeyLit x := fun x hx => by
  obtain ⟨y, _, rfl⟩ := List.mem_map.1 hx
  exact klA_key y
theorem sA_has (l : List DA) (k : Nat) (x : DA) : Maps.has (sA (H := Unit) l k) (klA x) = true ↔ klA x ∈ (l.take k).map klA := by
  unfold sA
  rw [has_setOf _ _ _ (sA_keys l k), List.any_eq_true]
  constructor
  · rintro ⟨y, hy, e⟩
    rw [← WideAt.sameKey_eq e]
    exact hy
  · intro h
    exact ⟨_, h, WideAt.sameKey_self (klA_key x)⟩
theorem sA_size (l : List DA) : ∀ k, k ≤ l.length → Maps.size (sA (H := Unit) l k) ≤ k ∧ (Maps.size (sA (H := Unit) l k) = k ↔ ((l.take k).map klA).Nodup) := by
  intro k
  induction k with
  | zero => intro _; rw [sA_zero]; exact ⟨Nat.le_refl _, by simp [Maps.size]⟩
  | succ k ih =>
    intro hk
    obtain ⟨h1, h2⟩ := ih (by omega)
    have htidy : Tidy (sA (H := Unit) l k) := tidy_fold _ _ _ tidy_empty (sA_keys l k)
    rw [sA_succ l k (by omega), size_put htidy, List.take_succ_eq_append_getElem (by omega), List.map_append, List.map_singleton]
    by_cases hh : Maps.has (sA (H := Unit) l k) (klA l[k]) = true
    · rw [if_pos hh]
      have hmem := (sA_has l k l[k]).1 hh
      refine ⟨by omega, ⟨fun e => by omega, fun e => ?_⟩⟩
      rw [List.nodup_append] at e
      exact absurd rfl (e.2.2 _ hmem _ (List.mem_singleton.2 rfl))
    · rw [if_neg hh]
      have hmem : klA l[k] ∉ (l.take k).map klA := fun q => hh ((sA_has l k l[k]).2 q)
      refine ⟨by omega, ⟨fun e => ?_, fun e => ?_⟩⟩
      · rw [List.nodup_append]
        refine ⟨h2.1 (by omega), by simp, fun a ha b hb => ?_⟩
        rw [List.mem_singleton.1 hb]
        rintro rfl
        exact hmem ha
      · rw [List.nodup_append] at e
        have := h2.2 e.1
        omega
def pairsA (l : List DA) : List (ByteArray × ByteArray) := l.map fun x => (x.f0, x.f1)
theorem nodup_keys (l : List DA) (hsz : ∀ x ∈ l, x.f0.size ≤ maxLen ∧ x.f1.size ≤ maxLen) : (l.map klA).Nodup ↔ (pairsA l).Nodup := by
  unfold pairsA
  induction l with
  | nil => simp
  | cons x l ih =>
    rw [List.map_cons, List.map_cons, List.nodup_cons, List.nodup_cons, ih (fun y hy => hsz y (List.mem_cons_of_mem _ hy))]
    have : klA x ∈ l.map klA ↔ (x.f0, x.f1) ∈ l.map (fun x => (x.f0, x.f1)) := by
      constructor
      · intro h
        obtain ⟨y, hy, e⟩ := List.mem_map.1 h
        exact List.mem_map.2 ⟨y, hy, klA_inj (hsz y (List.mem_cons_of_mem _ hy)) (hsz x (List.mem_cons_self ..)) e⟩
      · intro h
        obtain ⟨y, hy, e⟩ := List.mem_map.1 h
        refine List.mem_map.2 ⟨y, hy, ?_⟩
        unfold klA
        rw [(Prod.mk.inj e).1, (Prod.mk.inj e).2]
    rw [this]
def impl_distinct_impl_Addr.f (l0 : List DA) : Option Bool :=
  if (∀ x ∈ l0, x.f0.size ≤ maxLen ∧ x.f1.size ≤ maxLen) ∧ l0.length < maxLen then some (decide (pairsA l0).Nodup) else none
theorem impl_distinct_impl_Addr.calls (A0 : Option Addr) (c0 : Nat) (l0 : List DA) (r : Bool) (w : World) (hr0 : Kd.C k24 w A0 l0.length l0) (hc0 : l0.length ≤ c0) (h : impl_distinct_impl_Addr.f l0 = some r) :
    Calls Tryz.prog 68 #[.slice A0 l0.length c0] w fun e w' => e = .returned (.bool r) ∧ Below w.heap.size w w' := by
  unfold impl_distinct_impl_Addr.f at h
  split at h
  · rename_i hs
    injection h with h
    subst h
    refine (distinct_walk A0 c0 l0 w hr0 hc0 hs.2 hs.1).mono ?_
    rintro e w' ⟨rfl, hb⟩
    refine ⟨?_, hb⟩
    congr 2
    obtain ⟨_, h2⟩ := sA_size l0 l0.length (Nat.le_refl _)
    rw [List.take_length, nodup_keys l0 hs.1] at h2
    rw [Bool.eq_iff_iff, beq_iff_eq, decide_eq_true_eq, ← h2]
    omega
  · cases h
end Go.Proofs.YtjdpdkdhfnpcgaaGreatDoor.Q
