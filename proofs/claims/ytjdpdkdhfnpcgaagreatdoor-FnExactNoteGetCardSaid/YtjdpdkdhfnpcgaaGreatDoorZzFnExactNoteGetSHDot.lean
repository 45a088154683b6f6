/- Of a text of ours what this claim needs. -/
import Derived.Test.YtjdpdkdhfnpcgaaGreatDoorZzFnExactNoteGetSQ0
import Derived.Test.YtjdpdkdhfnpcgaaGreatDoorZzFnExactNoteGetSShelf
import Derived.Shelf.Strings.BuilderK
import Derived.WalkKit
import Derived.BigCall
namespace Go.Proofs.YtjdpdkdhfnpcgaaGreatDoor.Q
open Go.RowKit Go.Proofs.YtjdpdkdhfnpcgaaGreatDoorW.PrintWords Go.Proofs.YtjdpdkdhfnpcgaaGreatDoorW.PrintLast Go.Proofs.YtjdpdkdhfnpcgaaGreatDoorW.PrintMore
set_option linter.unusedVariables false
set_option linter.unusedSimpArgs false
namespace HDot
theorem sizeB : (Tryz.prog.info? 128).map (·.size) = some 2 := by kernel_rfl
theorem liesB : liesAt Tryz.prog Tryz.prog.depth 128 (2 / Tryz.prog.cellsOf 128) 0 128 1 = true := by kernel_rfl
theorem infoByte : (Tryz.prog.info? 5).map (fun i => (i.zero, i.size, i.bytes)) = some (some (.int .u8 0), 1, 1) := by kernel_rfl
set_option maxHeartbeats 1000000 in
set_option maxRecDepth 100000 in
theorem used (b : Nat) (w : World) (h0 : w.cell? ⟨b, 0, none⟩ = some (.pointer (some ⟨b, 0, none⟩))) :
    Calls Tryz.prog 139 #[.pointer (some ⟨b, 0, none⟩)] w fun e w' => e = .returned (.tuple #[]) ∧ w' = w := by
  obtain ⟨j, hj, _⟩ := Option.map_eq_some_iff.1 sizeB
  have t72 := Tryz.underlying128; have u72 := run_underlying t72
  have t70 := Tryz.underlying126; have u70 := run_underlying t70
  go_enter Tryz.func139, Tryz.ntmps139
  go_wp2
  rw [Lib.run_neq_ptr_same w _ Tryz.underlying126 hj]
  go_wp2
  go_end0
  exact ⟨rfl, rfl⟩
set_option maxHeartbeats 1000000 in
set_option maxRecDepth 100000 in
theorem fresh (b : Nat) (w : World) (h0 : w.cell? ⟨b, 0, none⟩ = some (.pointer none)) (hsh : w.shape? b = some (128, 2)) (hfz : w.frozen? ⟨b, 0, none⟩ = false) :
    Calls Tryz.prog 139 #[.pointer (some ⟨b, 0, none⟩)] w fun e w' => e = .returned (.tuple #[]) ∧ w' = w.setCell ⟨b, 0, none⟩ (.pointer (some ⟨b, 0, none⟩)) := by
  obtain ⟨j, hj, hjs⟩ := Option.map_eq_some_iff.1 sizeB
  have t72 := Tryz.underlying128; have u72 := run_underlying t72
  have t70 := Tryz.underlying126; have u70 := run_underlying t70
  have t164 := Tryz.underlying176; have u164 := run_underlying t164
  go_enter Tryz.func139, Tryz.ntmps139
  go_wp2
  rw [Lib.run_to_unsafe w ⟨b, 0, none⟩ Tryz.underlying126 Tryz.underlying176 hj (by rw [hjs]; decide) hsh (Nat.zero_lt_succ 1)]
  simp only [Result.andThen]
  rw [Oper.upon_value]
  go_wp2
  rw [run_callFunc_extern Tryz.func172 (by kernel_rfl) (by kernel_rfl) (by kernel_rfl) (e := Extern.AbiNoEscape.same) (by kernel_rfl)]
  rw [Lib.run_noEscape]
  simp only [Result.andThen]
  rw [Oper.upon_value]
  go_wp2
  rw [Lib.run_from_unsafe w ⟨b, 0, none⟩ Tryz.underlying176 Tryz.underlying126 hj hsh liesB]
  simp only [Result.andThen]
  rw [Oper.upon_value]
  go_wp2
  go_end0
  exact ⟨rfl, rfl⟩
theorem check (B b : Nat) (bs : List Value) (w : World) (h : Lib.IsBuilderF 128 5 B b bs w) :
    Calls Tryz.prog 139 #[.pointer (some ⟨b, 0, none⟩)] w fun e w' => e = .returned (.tuple #[]) ∧ Lib.BuilderAtF 128 5 B b (.pointer (some ⟨b, 0, none⟩)) bs w' ∧ Below B w w' := by
  rcases h with h | h
  · refine (fresh b w h.cell0 h.shape h.frozen0).mono ?_
    rintro e w' ⟨rfl, rfl⟩
    exact ⟨rfl, h.used _, (Below.refl B w).setCell (p := ⟨b, 0, none⟩) h.1 _⟩
  · refine (used b w h.cell0).mono ?_
    rintro e w' ⟨rfl, rfl⟩
    exact ⟨rfl, h, Below.refl B _⟩
set_option maxHeartbeats 2000000 in
set_option maxRecDepth 100000 in
theorem writeByte (B b : Nat) (bs : List Value) (c : Int) (w : World) (h : Lib.IsBuilderF 128 5 B b bs w) (hlen : bs.length + 1 ≤ 140737488355328) (hBw : B ≤ w.heap.size) :
    Calls Tryz.prog 104 #[.pointer (some ⟨b, 0, none⟩), .int .u8 c] w fun e w' => e = .returned .nilIface ∧ Lib.BuilderAtF 128 5 B b (.pointer (some ⟨b, 0, none⟩)) (bs ++ [.int .u8 c]) w' ∧ Below B w w' := by
  obtain ⟨i0, hi, hz0, hz1, hz2⟩ := info_parts infoByte
  have u72 := run_underlying Tryz.underlying128
  have u70 := run_underlying Tryz.underlying126
  have u5 := run_underlying Tryz.underlying5
  have u37 := run_underlying Tryz.underlying22
  go_enter Tryz.func104, Tryz.ntmps104
  go_wp2_with (go_at_call 139; refine (check B b bs _ h).mono ?_)
  rintro e w1 ⟨rfl, h1, hb1⟩
  obtain ⟨hB, v, hbk, hown, hne⟩ := h1
  have c0 : w1.cell? ⟨b, 0, none⟩ = some (.pointer (some ⟨b, 0, none⟩)) := by rw [Lib.cell_of_heap hbk]; rfl
  have c1 : w1.cell? ⟨b, 1, none⟩ = some v := by rw [Lib.cell_of_heap hbk]; rfl
  go_wp2_with (at_builtin; refine wpList_append_ownF _ rfl _ _ 22 rfl B 5 i0 (.int .u8 0) 1 1 Tryz.underlying22 hi hz0 hz1 hz2 rfl (by decide) _ _ _ rfl (hown.alloc _) ⟨w1.heap.size, 0, none⟩ 1 1 [.int .u8 c] rfl rfl ?c1 ?c2 ?c3 ?c4 ?c5 ?_)
  case c1 =>
    intro j u hj
    match j, hj with
    | 0, hj => simp at hj; subst hj; simp [Addr.add]
  case c2 => intro u hu; simp at hu; subst hu; rfl
  case c3 => unfold maxLen; omega
  case c4 => omega
  case c5 => have := hb1.size; simp; omega
  intro v' w2 hown' hgrow _
  have hlt : b < w1.heap.size := by
    rcases Nat.lt_or_ge b w1.heap.size with h' | h'
    · exact h'
    · simp [Array.getElem?_eq_none h'] at hbk
  have hb2 : w2.heap[b]? = some (.cells #[.pointer (some ⟨b, 0, none⟩), v] 128 (0, 0)) := by
    rw [hgrow.block b (by simp; omega) (fun e => hne e.symm), Lib.alloc_old w1 _ b hlt]
    exact hbk
  have d0 : w2.cell? ⟨b, 0, none⟩ = some (.pointer (some ⟨b, 0, none⟩)) := by rw [Lib.cell_of_heap hb2]; rfl
  have d1 : w2.cell? ⟨b, 1, none⟩ = some v := by rw [Lib.cell_of_heap hb2]; rfl
  have f1 : w2.frozen? ⟨b, 1, none⟩ = false := Lib.frozen_of_heap hb2 1
  obtain ⟨g, cap, rfl⟩ : ∃ g cap, v' = .slice (some ⟨g, 0, none⟩) (bs.length + 1) cap := by
    rcases hown'.2 with ⟨_, h0⟩ | ⟨g, cap, cur, fz, hv, _⟩
    · omega
    · exact ⟨g, cap, hv⟩
  go_wp2
  go_ret
  refine ⟨rfl, ?_, ?_⟩
  · exact Lib.BuilderAtF.put (T := 128) (e := 5) hB hb2 (bs' := bs ++ [.int .u8 c]) (by simpa using hown') (by decide)
  · exact ((hb1.alloc (by have := hb1.size; omega) _).grown hgrow (by have := hb1.size; simp; omega) (fun k hk => (hown.lt k hk).1)).setCell (p := ⟨b, 1, none⟩) hB _
set_option maxHeartbeats 2000000 in
set_option maxRecDepth 100000 in
theorem writeString (B b : Nat) (bs : List Value) (s : ByteArray) (w : World) (h : Lib.IsBuilderF 128 5 B b bs w) (hlen : bs.length + s.size ≤ 140737488355328) (hBw : B ≤ w.heap.size) :
    Calls Tryz.prog 105 #[.pointer (some ⟨b, 0, none⟩), .string s] w fun e w' => e = .returned (.tuple #[.int .i64 s.size, .nilIface]) ∧ Lib.BuilderAtF 128 5 B b (.pointer (some ⟨b, 0, none⟩)) (bs ++ Lib.strCells s) w' ∧ Below B w w' := by
  obtain ⟨i0, hi, hz0, hz1, hz2⟩ := info_parts infoByte
  have u72 := run_underlying Tryz.underlying128
  have u70 := run_underlying Tryz.underlying126
  have u5 := run_underlying Tryz.underlying5
  have u37 := run_underlying Tryz.underlying22
  have u9 := run_underlying Tryz.underlying9
  go_enter Tryz.func105, Tryz.ntmps105
  go_wp2_with (go_at_call 139; refine (check B b bs _ h).mono ?_)
  rintro e w1 ⟨rfl, h1, hb1⟩
  obtain ⟨hB, v, hbk, hown, hne⟩ := h1
  have c0 : w1.cell? ⟨b, 0, none⟩ = some (.pointer (some ⟨b, 0, none⟩)) := by rw [Lib.cell_of_heap hbk]; rfl
  have c1 : w1.cell? ⟨b, 1, none⟩ = some v := by rw [Lib.cell_of_heap hbk]; rfl
  go_wp2_with (at_builtin; refine Lib.wpList_append_own_stringF _ rfl _ _ 22 9 rfl B 5 i0 Tryz.underlying22 Tryz.underlying9 hi hz0 hz1 hz2 _ _ _ rfl hown s rfl ?c3 ?c4 ?c5 ?_)
  case c3 => unfold maxLen; omega
  case c4 => omega
  case c5 => have := hb1.size; omega
  intro v' w2 hown' hgrow _
  have hlt : b < w1.heap.size := by
    rcases Nat.lt_or_ge b w1.heap.size with h' | h'
    · exact h'
    · simp [Array.getElem?_eq_none h'] at hbk
  have hb2 : w2.heap[b]? = some (.cells #[.pointer (some ⟨b, 0, none⟩), v] 128 (0, 0)) := by
    rw [hgrow.block b hlt (fun e => hne e.symm)]
    exact hbk
  have d0 : w2.cell? ⟨b, 0, none⟩ = some (.pointer (some ⟨b, 0, none⟩)) := by rw [Lib.cell_of_heap hb2]; rfl
  have d1 : w2.cell? ⟨b, 1, none⟩ = some v := by rw [Lib.cell_of_heap hb2]; rfl
  have f1 : w2.frozen? ⟨b, 1, none⟩ = false := Lib.frozen_of_heap hb2 1
  obtain ⟨ao, n', cap, rfl⟩ : ∃ ao n' cap, v' = .slice ao n' cap := by
    rcases hown'.2 with ⟨hv, _⟩ | ⟨g, cap, cur, fz, hv, _⟩
    · exact ⟨_, _, _, hv⟩
    · exact ⟨_, _, _, hv⟩
  go_wp2
  go_ret2
  refine ⟨rfl, ?_, ?_⟩
  · exact Lib.BuilderAtF.put (T := 128) (e := 5) hB hb2 (bs' := bs ++ Lib.strCells s) (by simpa [Lib.strCells_length] using hown') (by decide)
  · exact (hb1.grown hgrow (by have := hb1.size; omega) (fun k hk => (hown.lt k hk).1)).setCell (p := ⟨b, 1, none⟩) hB _
end HDot
def dotLine (l : List UInt8) : List UInt8 := (if Lib.hasPrefix l [46] = true then [46] else []) ++ (l ++ [13, 10])
def dotLines (ls : List ByteArray) : List UInt8 := ls.flatMap fun s => dotLine s.data.toList
def impl_dotted.f (l0 : List ByteArray) : Option ByteArray := if (dotLines l0).length ≤ 1099511627776 then some ⟨(dotLines l0 ++ [46, 13, 10]).toArray⟩ else none
theorem dotLines_take (ls : List ByteArray) (k : Nat) (h : k < ls.length) : dotLines (ls.take (k + 1)) = dotLines (ls.take k) ++ dotLine (ls.getD k ByteArray.empty).data.toList := by
  unfold dotLines
  rw [List.take_succ_eq_append_getElem h, List.flatMap_append, List.getD_eq_getElem?_getD, List.getElem?_eq_getElem h]
  simp
theorem dotLines_le (ls : List ByteArray) (k : Nat) : (dotLines (ls.take k)).length ≤ (dotLines ls).length := by
  conv => rhs; rw [← List.take_append_drop k ls]
  unfold dotLines
  rw [List.flatMap_append, List.length_append]
  omega
theorem strCells_byte (s : ByteArray) : Lib.strCells s = Lib.byteCells s.data.toList := rfl
theorem data_append (a b : ByteArray) : (a ++ b).data.toList = a.data.toList ++ b.data.toList := by
  rw [ByteArray.data_append, Array.toList_append]
theorem size_crlf (line : ByteArray) : (line ++ ⟨#[13, 10]⟩).size = line.size + 2 := by
  rw [Lib.size_eq, data_append, List.length_append, ← Lib.size_eq]
  rfl
theorem cells_plain (acc : List UInt8) (line : ByteArray) : Lib.byteCells (acc ++ (line.data.toList ++ [13, 10])) = Lib.byteCells acc ++ Lib.strCells (line ++ ⟨#[13, 10]⟩) := by
  rw [Lib.byteCells_append, strCells_byte, data_append]
theorem cells_dot (acc : List UInt8) (line : ByteArray) : Lib.byteCells (acc ++ ([46] ++ (line.data.toList ++ [13, 10]))) = Lib.byteCells acc ++ [.int .u8 46] ++ Lib.strCells (line ++ ⟨#[13, 10]⟩) := by
  rw [← List.append_assoc, cells_plain, Lib.byteCells_append]
  rfl
set_option maxHeartbeats 4000000 in
set_option maxRecDepth 100000 in
theorem impl_dotted.calls (A0 : Option Addr) (c0 : Nat) (l0 : List ByteArray) (r : ByteArray) (w : World) (hr0 : Kd.C Kd.string w A0 l0.length l0) (hc0 : l0.length ≤ c0) (h : impl_dotted.f l0 = some r) :
    Calls Tryz.prog 55 #[.slice A0 l0.length c0] w fun e w' => e = .returned (.string r) ∧ Below w.heap.size w w' := by
  unfold impl_dotted.f at h
  split at h
  case isFalse => cases h
  case isTrue hlen =>
    injection h with h
    have hR := Aside0.mk h
    have hlen2 := Aside0.mk hlen
    have hc0' := Aside0.mk hc0
    clear h hlen hc0
    have hm : l0.length ≤ 9223372036854775807 := hr0.2.1
    go_enter Tryz.func55, Tryz.ntmps55
    go_wp2
    go_loopw [8] (fun i wr => ∃ k : Nat, k ≤ l0.length ∧ i = .int .i64 k ∧ Lib.IsBuilderF 128 5 w.heap.size w.heap.size (Lib.byteCells (dotLines (l0.take k))) wr ∧ w.heap.size < wr.heap.size ∧ Below w.heap.size w wr) (fun i _ => l0.length - (intOf i).toNat)
    case atStart =>
      exact ⟨0, Nat.zero_le _, rfl, Lib.IsBuilderF.of (Lib.fresh_isBuilder 128 5 w), by simp, (Below.refl _ w).alloc (Nat.le_refl _) _⟩
    case round =>
      obtain ⟨k, hk, rfl, hI, hsz, hbw⟩ := hrel
      by_cases hlt : k < l0.length
      · have hC := Kd.z0 hr0 hbw
        obtain ⟨ad, e1, hx⟩ := Kd.z11 hC (k : Int) (by omega) (by omega)
        cases e1
        have hts := Aside0.mk (dotLines_take l0 k hlt)
        have hle := dotLines_le l0 (k + 1)
        have hle0 := dotLines_le l0 k
        have hle2 : (dotLines (l0.take k)).length + (dotLine (l0.getD k ByteArray.empty).data.toList).length ≤ 1099511627776 := by
          have := hlen2.out
          rw [hts.out, List.length_append] at hle
          omega
        have hdl : (l0.getD k ByteArray.empty).size + 2 ≤ (dotLine (l0.getD k ByteArray.empty).data.toList).length := by
          unfold dotLine
          simp only [List.length_append, Lib.size_eq, List.length_cons, List.length_nil]
          omega
        have hrd : rdOf ByteArray.empty l0 (k : Int) = l0.getD k ByteArray.empty := by unfold rdOf; rw [Int.toNat_natCast]
        rw [hrd, Int.toNat_natCast] at hx
        clear hrd hC hle hle0
        have hsz2 : (l0.getD k ByteArray.empty).size + 2 ≤ 9223372036854775807 := by omega
        have hl2 := Aside0.mk hle2
        clear hle2 hdl
        generalize l0.getD k ByteArray.empty = line at *
        generalize hacc : dotLines (l0.take k) = acc at *
        clear hacc
        by_cases hp : Lib.hasPrefix line.data.toList [46] = true
        · have hd : dotLine line.data.toList = [46] ++ (line.data.toList ++ [13, 10]) := by unfold dotLine; rw [if_pos hp]
          rw [hd] at hts hl2
          clear hd
          go_wp2_with (first | (go_at_call 103; refine (Tryz.strings_HasPrefix line ⟨#[46]⟩ _).mono ?_; rintro e w' ⟨rfl, rfl⟩) | (go_at_call 104; refine (HDot.writeByte w.heap.size w.heap.size _ 46 _ hI (by rw [Lib.byteCells_length]; have := hl2.out; simp at this; omega) (by omega)).mono ?_))
          rintro e W1 ⟨rfl, h1, b1⟩
          have hs1 := b1.size
          have hw := Aside0.mk (show (Lib.byteCells acc ++ [Value.int .u8 46]).length + (line ++ ⟨#[13, 10]⟩).size ≤ 140737488355328 by
            have := hl2.out
            rw [List.length_append, Lib.byteCells_length, size_crlf]
            simp at this ⊢
            omega)
          have hb : w.heap.size ≤ W1.heap.size := by omega
          have h1' : Lib.IsBuilderF 128 5 w.heap.size w.heap.size (Lib.byteCells acc ++ [Value.int .u8 46]) W1 := Or.inr h1
          go_wp2_with (go_at_call 105; (with_reducible refine (HDot.writeString w.heap.size w.heap.size (Lib.byteCells acc ++ [Value.int .u8 46]) (line ++ ⟨#[13, 10]⟩) _ h1' hw.out hb).mono ?_))
          rintro e W2 ⟨rfl, h2, b2⟩
          have hs2 := b2.size
          go_wp2
          go_roundw
          case rel =>
            refine ⟨k + 1, by omega, by go_num, ?_, by omega, hbw.trans (b1.trans b2)⟩
            rw [hts.out, cells_dot]
            exact Or.inr h2
          case measure => simp [intOf]; omega
        · have hp' : Lib.hasPrefix line.data.toList [46] = false := by simpa using hp
          have hd : dotLine line.data.toList = line.data.toList ++ [13, 10] := by unfold dotLine; rw [if_neg hp]; rfl
          rw [hd] at hts hl2
          clear hd hp
          have hw := Aside0.mk (show (Lib.byteCells acc).length + (line ++ ⟨#[13, 10]⟩).size ≤ 140737488355328 by
            have := hl2.out
            rw [Lib.byteCells_length, size_crlf]
            simp at this ⊢
            omega)
          have hb : w.heap.size ≤ wr.heap.size := by omega
          go_wp2_with (first | (go_at_call 103; (with_reducible refine (Tryz.strings_HasPrefix line ⟨#[46]⟩ _).mono ?_); rintro e w' ⟨rfl, rfl⟩) | (go_at_call 105; (with_reducible refine (HDot.writeString w.heap.size w.heap.size (Lib.byteCells acc) (line ++ ⟨#[13, 10]⟩) _ hI hw.out hb).mono ?_)))
          rintro e W2 ⟨rfl, h2, b2⟩
          have hs2 := b2.size
          go_wp2
          go_roundw
          case rel =>
            refine ⟨k + 1, by omega, by go_num, ?_, by omega, hbw.trans b2⟩
            rw [hts.out, cells_plain]
            exact Or.inr h2
          case measure => simp [intOf]; omega
      · have hke : k = l0.length := by omega
        subst hke
        have hle2 := hlen2.out
        rw [List.take_length] at hI
        generalize hacc : dotLines l0 = acc at *
        clear hacc
        have hs3 : (Lib.byteCells acc).length + (⟨#[46, 13, 10]⟩ : ByteArray).size ≤ 140737488355328 := by
          have : (⟨#[46, 13, 10]⟩ : ByteArray).size = 3 := rfl
          rw [Lib.byteCells_length]
          omega
        have hs4 : w.heap.size ≤ wr.heap.size := by omega
        have hs5 := Aside0.mk hs3
        clear hs3 hle2
        go_wp2_with (go_at_call 105; (with_reducible refine (HDot.writeString w.heap.size w.heap.size (Lib.byteCells acc) ⟨#[46, 13, 10]⟩ _ hI hs5.out hs4).mono ?_))
        rintro e W1 ⟨rfl, h1, b1⟩
        have hs1 := b1.size
        have h2 : Lib.IsBuilderF 128 5 w.heap.size w.heap.size (Lib.byteCells (acc ++ [46, 13, 10])) W1 := by
          rw [Lib.byteCells_append]
          exact Or.inr h1
        go_wp2_with (go_at_call 106; refine (Tryz.Builder_String_any_k w.heap.size w.heap.size (acc ++ [46, 13, 10]) _ h2 (by omega)).mono ?_)
        rintro e W2 ⟨rfl, _, b2, _⟩
        go_wp2
        go_ret
        exact ⟨congrArg (fun s => Ending.returned (Value.string s)) hR.out, hbw.trans (b1.trans b2)⟩
end Go.Proofs.YtjdpdkdhfnpcgaaGreatDoor.Q
