/- Of a text of ours what this claim needs. -/
import Derived.Test.YtjdpdkdhfnpcgaaGreatDoorZzFnNotePutTN7
set_option maxHeartbeats 8000000
set_option maxRecDepth 100000
namespace Go.Proofs.YtjdpdkdhfnpcgaaGreatDoor.Q
open Go.RowKit Go.Proofs.YtjdpdkdhfnpcgaaGreatDoorW.PrintWords Go.Proofs.YtjdpdkdhfnpcgaaGreatDoorW.PrintLast Go.Proofs.YtjdpdkdhfnpcgaaGreatDoorW.PrintMore
set_option linter.unusedVariables false
set_option linter.unusedSimpArgs false
abbrev IT := S114
def ofFar (k : Nat)(s0_0 : List Int)(s0_1 : Int) : Option (Int × ByteArray × ByteArray × Int) :=
  (yaa.f k s0_0 s0_1 4).bind fun t => (yat.f k s0_0 t.2).bind fun a => some (t.1, a.1, a.2.1, a.2.2)
def ofItem (k : Nat)(s0_0 : List Int)(s1 : Int)(x : IT) : Option (Int × ByteArray × ByteArray × Int) :=
  if(x.f2.length : Int) = 0 then(yat.f k s0_0 s1).bind fun a => some (x.f0, a.1, a.2.1, a.2.2)
  else(yaa.f k s0_0 s1 (x.f2.length : Int)).bind fun u => if 0 ≤ u.1 ∧ u.1<(x.f2.length : Int)then some (x.f0, (zq16 x.f2 u.1).f0.f0, (zq16 x.f2 u.1).f0.f1, u.2)else none
def ofNear (k : Nat)(s0_0 : List Int)(s0_1 : Int)(l1_1 : List IT) : Option (Int × ByteArray × ByteArray × Int) :=
  (yaa.f k s0_0 s0_1 (l1_1.length : Int)).bind fun t => if 0 ≤ t.1 ∧ t.1<(l1_1.length : Int)then ofItem k s0_0 t.2 (zq4 l1_1 t.1)else none
def ybs.f (k : Nat)(s0_0 : List Int)(s0_1 : Int)(a1_0 : Int)(l1_1 : List IT) : Option (Int × ByteArray × ByteArray × Int) :=
  if(l1_1.length : Int) = 0 then ofFar k s0_0 s0_1 else(yaa.f k s0_0 s0_1 6).bind fun t => if t.1 = 0 then ofFar k s0_0 t.2 else ofNear k s0_0 t.2 l1_1
def OfI (w0 w W : World)(g : Nat)(s0 : List Int)(s1 : Int) : Prop := IsS106 w0 W g s0 s1 ∧ Below w0.heap.size w0 W ∧ KeepBut w W g none
section
variable {w0 w W W1 : World} {g : Nat} {s0 : List Int} {s1 : Int}
theorem OfI.below (h : OfI w0 w W g s0 s1)(hb : Below W.heap.size W W1) : OfI w0 w W1 g s0 s1 := ⟨h.1.below hb, zq1 h.2.1 hb, KeepBut.trans h.2.2 (KeepBut.of_below hb g none) (.inl rfl)⟩
theorem OfI.drew (h : OfI w0 w W g s0 s1) : OfI w0 w W.drew g s0 s1 := ⟨h.1.drew, zq19 h.2.1, keep_drew h.2.2⟩
theorem OfI.far (h : OfI w0 w W g s0 s1){b j : Nat}(hb : w.heap.size ≤ b)(hB : w0.heap.size ≤ b)(hne : g ≠ b)(u : Value) : OfI w0 w (W.setCell ⟨b, j, none⟩ u) g s0 s1 := ⟨h.1.far hne u, below_set h.2.1 hB, keep_far h.2.2 hb u⟩
theorem OfI.call {s2 : Int}(h : OfI w0 w W g s0 s1)(hi : IsS106 w0 W1 g s0 s2)(hb : Below w0.heap.size w0 W1)(hk : KeepBut W W1 g none) : OfI w0 w W1 g s0 s2 := ⟨hi, hb, KeepBut.trans h.2.2 hk (.inl rfl)⟩
theorem OfI.i (h : OfI w0 w W g s0 s1) : IsS106 w0 W g s0 s1 := h.1
theorem OfI.b (h : OfI w0 w W g s0 s1) : Below w0.heap.size w0 W := h.2.1
theorem OfI.lt (h : OfI w0 w W g s0 s1) : g<W.heap.size := h.1.lt
theorem OfI.size (h : OfI w0 w W g s0 s1) : w.heap.size ≤ W.heap.size := zq8 h.2.2
theorem OfI.size0 (h : OfI w0 w W g s0 s1) : w0.heap.size ≤ W.heap.size := zq6 h.2.1
end
def OwnB (w0 w W : World)(g b : Nat)(cs : Array Value)(t : Nat) : Prop := W.heap[b]? = some (.cells cs t (0, 0)) ∧ w.heap.size ≤ b ∧ w0.heap.size ≤ b ∧ g ≠ b
section
variable {w0 w W W1 : World} {g b : Nat} {cs : Array Value} {t : Nat} {s0 : List Int} {s1 : Int}
theorem OwnB.below (h : OwnB w0 w W g b cs t)(hb : Below W.heap.size W W1) : OwnB w0 w W1 g b cs t := ⟨zq2 h.1 hb, h.2⟩
theorem OwnB.drew (h : OwnB w0 w W g b cs t) : OwnB w0 w W.drew g b cs t := ⟨blk_drew h.1, h.2⟩
theorem OwnB.keep (h : OwnB w0 w W g b cs t)(hk : KeepBut W W1 g none) : OwnB w0 w W1 g b cs t := ⟨KeepBut.blk hk h.1 (Ne.symm h.2.2.2) (by simp), h.2⟩
theorem OwnB.new (hI : OfI w0 w W g s0 s1)(hb : b = W.heap.size)(h : W1.heap[b]? = some (.cells cs t (0, 0))) : OwnB w0 w W1 g b cs t := ⟨h, hb ▸ hI.size, hb ▸ hI.size0, by have := hI.lt; omega⟩
theorem OwnB.lt (h : OwnB w0 w W g b cs t) : b<W.heap.size := blk_lt h.1
theorem OwnB.put2 {x y : Value}(h : OwnB w0 w W g b #[x, y] t)(u v : Value) : OwnB w0 w ((W.setCell ⟨b, 0, none⟩ u).setCell ⟨b, 1, none⟩ v) g b #[u, v] t := ⟨blk_put (blk_put h.1 0 u rfl) 1 v rfl, h.2⟩
theorem OwnB.far (h : OwnB w0 w W g b cs t){c j : Nat}(hne : b ≠ c)(u : Value) : OwnB w0 w (W.setCell ⟨c, j, none⟩ u) g b cs t := ⟨blk_far h.1 hne u, h.2⟩
end
def ElE (W : World)(ad : Addr)(i : Nat)(x : IT)(A3 : Option Addr)(c3 : Nat)(A4 : Option Addr)(c4 : Nat) : Prop :=
  W.cell? (ad.add (i*5)) = some (.int .i64 x.f0) ∧ W.cell? ⟨(ad.add (i*5)).block, (ad.add (i*5)).off + 1, none⟩ = some (.string x.f1.f0) ∧ W.cell? ⟨(ad.add (i*5)).block, (ad.add (i*5)).off + 2, none⟩ = some (.string x.f1.f1) ∧
  W.cell? ⟨(ad.add (i*5)).block, (ad.add (i*5)).off + 3, none⟩ = some (.slice A3 x.f2.length c3) ∧ W.cell? ⟨(ad.add (i*5)).block, (ad.add (i*5)).off + 4, none⟩ = some (.slice A4 x.f3.length c4)
section
variable {W W1 : World} {ad : Addr} {i : Nat} {x : IT} {A3 : Option Addr} {c3 : Nat} {A4 : Option Addr} {c4 : Nat}
theorem ElE.keep {g : Nat}(h : ElE W ad i x A3 c3 A4 c4)(hk : KeepBut W W1 g none)(hne : ad.block ≠ g) : ElE W1 ad i x A3 c3 A4 c4 :=
  ⟨keep_cell hk h.1 (by first | (rw[zq15]; exact hne) | (show(Addr.add _ _).block ≠ _; rw[zq15]; exact hne)), keep_cell hk h.2.1 (by first | (rw[zq15]; exact hne) | (show(Addr.add _ _).block ≠ _; rw[zq15]; exact hne)), keep_cell hk h.2.2.1 (by first | (rw[zq15]; exact hne) | (show(Addr.add _ _).block ≠ _; rw[zq15]; exact hne)), keep_cell hk h.2.2.2.1 (by first | (rw[zq15]; exact hne) | (show(Addr.add _ _).block ≠ _; rw[zq15]; exact hne)), keep_cell hk h.2.2.2.2 (by first | (rw[zq15]; exact hne) | (show(Addr.add _ _).block ≠ _; rw[zq15]; exact hne))⟩
theorem ElE.below (h : ElE W ad i x A3 c3 A4 c4)(hb : Below W.heap.size W W1) : ElE W1 ad i x A3 c3 A4 c4 :=
  ⟨(hb.cell (World.block_lt_of_cell? _ _ h.1)).trans h.1, (hb.cell (World.block_lt_of_cell? _ _ h.2.1)).trans h.2.1, (hb.cell (World.block_lt_of_cell? _ _ h.2.2.1)).trans h.2.2.1, (hb.cell (World.block_lt_of_cell? _ _ h.2.2.2.1)).trans h.2.2.2.1, (hb.cell (World.block_lt_of_cell? _ _ h.2.2.2.2)).trans h.2.2.2.2⟩
theorem ElE.lt (h : ElE W ad i x A3 c3 A4 c4) : ad.block<W.heap.size := by
  have := World.block_lt_of_cell? _ _ h.1
  rwa [zq15]at this
end
abbrev set5 (W : World)(b : Nat)(u0 u1 u2 u3 u4 : Value) : World := ((((W.setCell ⟨b, 0, none⟩ u0).setCell ⟨b, 1, none⟩ u1).setCell ⟨b, 2, none⟩ u2).setCell ⟨b, 3, none⟩ u3).setCell ⟨b, 4, none⟩ u4
section
variable {w0 w W : World} {g b : Nat} {cs : Array Value} {t : Nat} {s0 : List Int} {s1 : Int} {u0 u1 u2 u3 u4 : Value}
theorem OfI.far5 (h : OfI w0 w W g s0 s1)(hb : w.heap.size ≤ b)(hB : w0.heap.size ≤ b)(hne : g ≠ b) : OfI w0 w (set5 W b u0 u1 u2 u3 u4) g s0 s1 := ((((h.far hb hB hne _).far hb hB hne _).far hb hB hne _).far hb hB hne _).far hb hB hne _
theorem OwnB.far5 {c : Nat}(h : OwnB w0 w W g c cs t)(hne : c ≠ b) : OwnB w0 w (set5 W b u0 u1 u2 u3 u4) g c cs t := ((((h.far hne _).far hne _).far hne _).far hne _).far hne _
theorem OwnB.put5 {x0 x1 x2 x3 x4 : Value}(h : OwnB w0 w W g b #[x0, x1, x2, x3, x4] t) : OwnB w0 w (set5 W b u0 u1 u2 u3 u4) g b #[u0, u1, u2, u3, u4] t :=
  ⟨blk_put (blk_put (blk_put (blk_put (blk_put h.1 0 u0 rfl) 1 u1 rfl) 2 u2 rfl) 3 u3 rfl) 4 u4 rfl, h.2⟩
theorem ElE.far {ad : Addr}{i : Nat}{x : IT}{A3 : Option Addr}{c3 : Nat}{A4 : Option Addr}{c4 : Nat}{j : Nat}(h : ElE W ad i x A3 c3 A4 c4)(hne : ad.block ≠ b)(u : Value) : ElE (W.setCell ⟨b, j, none⟩ u) ad i x A3 c3 A4 c4 :=
  ⟨(zq9 (p := ⟨b, j, none⟩) (by first | (rw[zq15]; exact hne) | (show(Addr.add _ _).block ≠ _; rw[zq15]; exact hne)) u).trans h.1, (zq9 (p := ⟨b, j, none⟩) (by first | (rw[zq15]; exact hne) | (show(Addr.add _ _).block ≠ _; rw[zq15]; exact hne)) u).trans h.2.1, (zq9 (p := ⟨b, j, none⟩) (by first | (rw[zq15]; exact hne) | (show(Addr.add _ _).block ≠ _; rw[zq15]; exact hne)) u).trans h.2.2.1, (zq9 (p := ⟨b, j, none⟩) (by first | (rw[zq15]; exact hne) | (show(Addr.add _ _).block ≠ _; rw[zq15]; exact hne)) u).trans h.2.2.2.1, (zq9 (p := ⟨b, j, none⟩) (by first | (rw[zq15]; exact hne) | (show(Addr.add _ _).block ≠ _; rw[zq15]; exact hne)) u).trans h.2.2.2.2⟩
theorem ElE.far5 {ad : Addr}{i : Nat}{x : IT}{A3 : Option Addr}{c3 : Nat}{A4 : Option Addr}{c4 : Nat}(h : ElE W ad i x A3 c3 A4 c4)(hne : ad.block ≠ b) : ElE (set5 W b u0 u1 u2 u3 u4) ad i x A3 c3 A4 c4 := ((((h.far hne _).far hne _).far hne _).far hne _).far hne _
theorem ElE.row {ad : Addr}{t_ : Int}{l : List IT}{A3 : Option Addr}{c3 : Nat}{A4 : Option Addr}{c4 : Nat}(h : ElE W ad t_.toNat (zq4 l t_) A3 c3 A4 c4)(hC : Kd.C k114 W (some ad) l.length l)(h0 : 0 ≤ t_)(h1 : t_<(l.length : Int)) :
    Kd.C k143 W A3 (zq4 l t_).f2.length (zq4 l t_).f2 := by
  obtain⟨ad', A3', c3', A4', c4', eA, x0, x1, x2, x3, x4, l3, g3, l4, g4⟩ := at_T114 hC t_ h0 h1
  cases eA
  have e := h.2.2.2.1.symm.trans x3
  simp only[Option.some.injEq, Value.slice.injEq]at e
  rw[e.1]
  exact g3
end
theorem ofFar1_calls (k : Nat)(g : Nat)(s0_0 : List Int)(s0_1 : Int)(a1_0 : Int)(A1_1 : Option Addr)(c1_1 : Nat)(l1_1 : List IT)(r1 : Int)(r2 r3 : ByteArray)(r4 : Int)(w0 w : World)(hI : OfI w0 w w g s0_0 s0_1)
    (hlen : (l1_1.length : Int) = 0) (h : ofFar k s0_0 s0_1 = some (r1, r2, r3, r4)) :
    Calls Tryz.prog 89 #[.pointer (some ⟨g, 0, none⟩), .agg #[.int .i64 a1_0, .slice A1_1 l1_1.length c1_1]] w fun e w' => e = .returned (.tuple #[.int .i64 r1, .agg #[.string r2, .string r3]]) ∧ OfI w0 w w' g s0_0 r4 := by
  unfold ofFar at h
  obtain⟨⟨t, s1⟩, A1, H⟩ := Option.bind_eq_some_iff.mp h
  obtain⟨⟨u, d, s2⟩, A2, H⟩ := Option.bind_eq_some_iff.mp H
  simp only[Option.some.injEq, Prod.mk.injEq]at H
  obtain⟨rfl, rfl, rfl, rfl⟩ := H
  have hu76 := Tryz.underlying76
  have hu24 := Tryz.underlying24
  replace A1 := Aside0.mk A1
  replace A2 := Aside0.mk A2
  have HI := Aside0.mk hI
  have cb0 : ((l1_1.length : Int) == 0) = true := beq_iff_eq.mpr hlen
  clear h hI hlen H
  go_enter Tryz.func89, Tryz.ntmps89
  go_wp2_with (first
    | ((with_reducible refine zq5 (N := 3) rfl ?_); refine box_event ?hg (N := 3) ?hd (cs := #[.int .i64 a1_0, .slice A1_1 l1_1.length c1_1]) (t := 76) ?hr ?_; (case hd => rfl); (case hg => rfl); (case hr => first | (go_simp; done) | (go_simp; rfl)); intro gb1 hg w1 hbox hb; have B1 := Aside0.mk (OwnB.new HI.out hg hbox); replace HI := Aside0.mk (HI.out.below hb); clear hbox hb hg)
    | ((with_reducible refine zq5 (N := 5) rfl ?_); refine box_event ?hg (N := 5) ?hd (cs := #[.string (⟨#[]⟩ : ByteArray), .string (⟨#[]⟩ : ByteArray)]) (t := 24) ?hr ?_; (case hd => rfl); (case hg => rfl); (case hr => first | (go_simp; done) | (go_simp; rfl)); intro gb2 hg w2 hbox hb; have B2 := Aside0.mk (OwnB.new HI.out hg hbox); have NE12 := Aside0.mk (show gb1 ≠ gb2 by have := B1.out.lt; omega); replace B1 := Aside0.mk (B1.out.below hb); replace HI := Aside0.mk (HI.out.below hb); clear hbox hb hg; have h11 : w2.cell? ⟨gb1, 1, none⟩ = some (.slice A1_1 l1_1.length c1_1) := (zq0 B1.out.1 1).trans rfl)
    | (go_at_call 47; (with_reducible refine(yaa.calls k g s0_0 s0_1 4 t s1 w0 _ (OfI.i HI.out) (OfI.b HI.out) A1.out).mono ?_); rintro e w4 ⟨rfl, hi, hb, hk⟩; replace B1 := Aside0.mk (B1.out.keep hk); replace B2 := Aside0.mk (B2.out.keep hk); replace HI := Aside0.mk (OfI.call HI.out hi hb hk); clear hi hb hk)
    | (go_at_call 130; (with_reducible refine(yat.calls k g s0_0 s1 u d s2 w0 _ (OfI.i HI.out) (OfI.b HI.out) A2.out).mono ?_); rintro e w5 ⟨rfl, hi, hb, hk⟩; replace B1 := Aside0.mk (B1.out.keep hk); replace B2 := Aside0.mk (B2.out.keep hk); replace HI := Aside0.mk (OfI.call HI.out hi hb hk); clear hi hb hk; have h20 : w5.cell? ⟨gb2, 0, none⟩ = some (.string (⟨#[]⟩ : ByteArray)) := (zq0 B2.out.1 0).trans rfl; have h21 : w5.cell? ⟨gb2, 1, none⟩ = some (.string (⟨#[]⟩ : ByteArray)) := (zq0 B2.out.1 1).trans rfl; have f20 := zq13 B2.out.1 0; have f21 := zq13 B2.out.1 1))
  refine bodyPost_ret (results_tc rfl _ _ gb2 24 #[.string u, .string d] (0, 0) _ rfl (OwnB.put2 B2.out (.string u) (.string d)).1 Tryz.underlying24 rfl (by kernel_rfl)) rfl ?_
  exact⟨rfl, (HI.out.far B2.out.2.1 B2.out.2.2.1 B2.out.2.2.2 _).far B2.out.2.1 B2.out.2.2.1 B2.out.2.2.2 _⟩
theorem ofFar2_calls (k : Nat)(g : Nat)(s0_0 : List Int)(s0_1 : Int)(a1_0 : Int)(A1_1 : Option Addr)(c1_1 : Nat)(l1_1 : List IT)(r1 : Int)(r2 r3 : ByteArray)(r4 : Int)(w0 w : World)(hI : OfI w0 w w g s0_0 s0_1)
    (hlen : ¬ (l1_1.length : Int) = 0) (s0 : Int) (h0 : yaa.f k s0_0 s0_1 6 = some (0, s0)) (h : ofFar k s0_0 s0 = some (r1, r2, r3, r4)) :
    Calls Tryz.prog 89 #[.pointer (some ⟨g, 0, none⟩), .agg #[.int .i64 a1_0, .slice A1_1 l1_1.length c1_1]] w fun e w' => e = .returned (.tuple #[.int .i64 r1, .agg #[.string r2, .string r3]]) ∧ OfI w0 w w' g s0_0 r4 := by
  unfold ofFar at h
  obtain⟨⟨t, s1⟩, A1, H⟩ := Option.bind_eq_some_iff.mp h
  obtain⟨⟨u, d, s2⟩, A2, H⟩ := Option.bind_eq_some_iff.mp H
  simp only[Option.some.injEq, Prod.mk.injEq]at H
  obtain⟨rfl, rfl, rfl, rfl⟩ := H
  have hu76 := Tryz.underlying76
  have hu24 := Tryz.underlying24
  replace A1 := Aside0.mk A1
  replace A2 := Aside0.mk A2
  have HI := Aside0.mk hI
  have cb0 : ((l1_1.length : Int) == 0) = false := beq_eq_false_iff_ne.mpr hlen
  have A0 := Aside0.mk h0
  have cb2 : ¬ (l1_1 = []) := fun h_ => hlen (by rw[h_]; rfl)
  clear h0
  clear h hI hlen H
  go_enter Tryz.func89, Tryz.ntmps89
  go_wp2_with (first
    | ((with_reducible refine zq5 (N := 3) rfl ?_); refine box_event ?hg (N := 3) ?hd (cs := #[.int .i64 a1_0, .slice A1_1 l1_1.length c1_1]) (t := 76) ?hr ?_; (case hd => rfl); (case hg => rfl); (case hr => first | (go_simp; done) | (go_simp; rfl)); intro gb1 hg w1 hbox hb; have B1 := Aside0.mk (OwnB.new HI.out hg hbox); replace HI := Aside0.mk (HI.out.below hb); clear hbox hb hg)
    | ((with_reducible refine zq5 (N := 5) rfl ?_); refine box_event ?hg (N := 5) ?hd (cs := #[.string (⟨#[]⟩ : ByteArray), .string (⟨#[]⟩ : ByteArray)]) (t := 24) ?hr ?_; (case hd => rfl); (case hg => rfl); (case hr => first | (go_simp; done) | (go_simp; rfl)); intro gb2 hg w2 hbox hb; have B2 := Aside0.mk (OwnB.new HI.out hg hbox); have NE12 := Aside0.mk (show gb1 ≠ gb2 by have := B1.out.lt; omega); replace B1 := Aside0.mk (B1.out.below hb); replace HI := Aside0.mk (HI.out.below hb); clear hbox hb hg; have h11 : w2.cell? ⟨gb1, 1, none⟩ = some (.slice A1_1 l1_1.length c1_1) := (zq0 B1.out.1 1).trans rfl)
    | (go_at_call 47; (with_reducible refine(yaa.calls k g s0_0 s0_1 6 0 s0 w0 _ (OfI.i HI.out) (OfI.b HI.out) A0.out).mono ?_); rintro e w3 ⟨rfl, hi, hb, hk⟩; replace B1 := Aside0.mk (B1.out.keep hk); replace B2 := Aside0.mk (B2.out.keep hk); replace HI := Aside0.mk (OfI.call HI.out hi hb hk); clear hi hb hk)
    | (go_at_call 47; (with_reducible refine(yaa.calls k g s0_0 s0 4 t s1 w0 _ (OfI.i HI.out) (OfI.b HI.out) A1.out).mono ?_); rintro e w4 ⟨rfl, hi, hb, hk⟩; replace B1 := Aside0.mk (B1.out.keep hk); replace B2 := Aside0.mk (B2.out.keep hk); replace HI := Aside0.mk (OfI.call HI.out hi hb hk); clear hi hb hk)
    | (go_at_call 130; (with_reducible refine(yat.calls k g s0_0 s1 u d s2 w0 _ (OfI.i HI.out) (OfI.b HI.out) A2.out).mono ?_); rintro e w5 ⟨rfl, hi, hb, hk⟩; replace B1 := Aside0.mk (B1.out.keep hk); replace B2 := Aside0.mk (B2.out.keep hk); replace HI := Aside0.mk (OfI.call HI.out hi hb hk); clear hi hb hk; have h20 : w5.cell? ⟨gb2, 0, none⟩ = some (.string (⟨#[]⟩ : ByteArray)) := (zq0 B2.out.1 0).trans rfl; have h21 : w5.cell? ⟨gb2, 1, none⟩ = some (.string (⟨#[]⟩ : ByteArray)) := (zq0 B2.out.1 1).trans rfl; have f20 := zq13 B2.out.1 0; have f21 := zq13 B2.out.1 1))
  refine bodyPost_ret (results_tc rfl _ _ gb2 24 #[.string u, .string d] (0, 0) _ rfl (OwnB.put2 B2.out (.string u) (.string d)).1 Tryz.underlying24 rfl (by kernel_rfl)) rfl ?_
  exact⟨rfl, (HI.out.far B2.out.2.1 B2.out.2.2.1 B2.out.2.2.2 _).far B2.out.2.1 B2.out.2.2.1 B2.out.2.2.2 _⟩
theorem ofNear_calls (k : Nat)(g : Nat)(s0_0 : List Int)(s0_1 : Int)(a1_0 : Int)(A1_1 : Option Addr)(c1_1 : Nat)(l1_1 : List IT)(r1 : Int)(r2 r3 : ByteArray)(r4 : Int)(w0 w : World)(hI : OfI w0 w w g s0_0 s0_1)
    (hr1_1 : ∀ W_, KeepBut w W_ g none → Kd.C k114 W_ A1_1 l1_1.length l1_1) (hc1_1 : l1_1.length ≤ c1_1) (hlen : ¬ (l1_1.length : Int) = 0) (t0 s0 : Int) (hne : ¬ t0 = 0) (h0 : yaa.f k s0_0 s0_1 6 = some (t0, s0)) (h : ofNear k s0_0 s0 l1_1 = some (r1, r2, r3, r4)) :
    Calls Tryz.prog 89 #[.pointer (some ⟨g, 0, none⟩), .agg #[.int .i64 a1_0, .slice A1_1 l1_1.length c1_1]] w fun e w' => e = .returned (.tuple #[.int .i64 r1, .agg #[.string r2, .string r3]]) ∧ OfI w0 w w' g s0_0 r4 := by
  unfold ofNear at h
  obtain⟨⟨t, s1⟩, A1, H⟩ := Option.bind_eq_some_iff.mp h
  replace A1 := Aside0.mk A1
  have ht : 0 ≤ t ∧ t<(l1_1.length : Int) := by
    by_cases h_ : 0 ≤ t ∧ t<(l1_1.length : Int)
    · exact h_
    · exact absurd ((if_neg h_).symm.trans H) (by simp)
  replace H : ofItem k s0_0 s1 (zq4 l1_1 t) = some (r1, r2, r3, r4) := (if_pos ht).symm.trans H
  have hu76 := Tryz.underlying76
  have hu24 := Tryz.underlying24
  have hu114 := Tryz.underlying114
  have HI := Aside0.mk hI
  have HR := Aside0.mk hr1_1
  have HC := Aside0.mk hc1_1
  have HH := Aside0.mk H
  have cb0 : ((l1_1.length : Int) == 0) = false := beq_eq_false_iff_ne.mpr hlen
  have cb1 : (t0 == 0) = false := beq_eq_false_iff_ne.mpr hne
  have cb2 : ¬ (l1_1 = []) := fun h_ => hlen (by rw[h_]; rfl)
  have A0 := Aside0.mk h0
  have p0 : (0 ≤ t) = True := eq_true ht.1
  have q0 : (t<(l1_1.length : Int)) = True := eq_true ht.2
  have HT := Aside0.mk ht
  clear h hI hlen H h0 hne hr1_1 hc1_1 ht
  go_enter Tryz.func89, Tryz.ntmps89
  go_upto_region 3 with (first
    | ((with_reducible refine zq5 (N := 3) rfl ?_); refine box_event ?hg (N := 3) ?hd (cs := #[.int .i64 a1_0, .slice A1_1 l1_1.length c1_1]) (t := 76) ?hr ?_; (case hd => rfl); (case hg => rfl); (case hr => first | (go_simp; done) | (go_simp; rfl)); intro gb1 hg w1 hbox hb; have B1 := Aside0.mk (OwnB.new HI.out hg hbox); replace HI := Aside0.mk (HI.out.below hb); clear hbox hb hg)
    | ((with_reducible refine zq5 (N := 5) rfl ?_); refine box_event ?hg (N := 5) ?hd (cs := #[.string (⟨#[]⟩ : ByteArray), .string (⟨#[]⟩ : ByteArray)]) (t := 24) ?hr ?_; (case hd => rfl); (case hg => rfl); (case hr => first | (go_simp; done) | (go_simp; rfl)); intro gb2 hg w2 hbox hb; have B2 := Aside0.mk (OwnB.new HI.out hg hbox); have NE12 := Aside0.mk (show gb1 ≠ gb2 by have := B1.out.lt; omega); replace B1 := Aside0.mk (B1.out.below hb); replace HI := Aside0.mk (HI.out.below hb); clear hbox hb hg; have h11 : w2.cell? ⟨gb1, 1, none⟩ = some (.slice A1_1 l1_1.length c1_1) := (zq0 B1.out.1 1).trans rfl)
    | (go_at_call 47; (with_reducible refine(yaa.calls k g s0_0 s0_1 6 t0 s0 w0 _ (OfI.i HI.out) (OfI.b HI.out) A0.out).mono ?_); rintro e w3 ⟨rfl, hi, hb, hk⟩; replace B1 := Aside0.mk (B1.out.keep hk); replace B2 := Aside0.mk (B2.out.keep hk); replace HI := Aside0.mk (OfI.call HI.out hi hb hk); clear hi hb hk))
  (try simp only[Act.put, List.setIfInBounds_toArray, List.set_cons_zero, List.set_cons_succ])
  obtain⟨ad, A3, c3, A4, c4, eA, x0, x1, x2, x3, x4, _, _, _, _⟩ := at_T114 (HR.out w3 HI.out.2.2) t HT.out.1 HT.out.2
  subst eA
  have EE := Aside0.mk (show ElE w3 ad t.toNat (zq4 l1_1 t) A3 c3 A4 c4 from⟨x0, x1, x2, x3, x4⟩)
  have NG := Aside0.mk (show ad.block ≠ g from Kd.foot_ne HR.out (by have := HT.out; omega) (by decide))
  clear x0 x1 x2 x3 x4 h11
  replace B1 := Aside0.mk B1.out.drew
  replace B2 := Aside0.mk B2.out.drew
  replace HI := Aside0.mk HI.out.drew
  replace EE := Aside0.mk (show ElE w3.drew ad t.toNat (zq4 l1_1 t) A3 c3 A4 c4 from EE.out)
  refine start_ (n := 11) (S := fun w' => w'.cell? ⟨gb1, 1, none⟩ = some (.slice (some ad) l1_1.length c1_1) ∧ ElE w' ad t.toNat (zq4 l1_1 t) A3 c3 A4 c4) (ds := [10]) #[false, false, false, false, false, false, false, false, false, false, false] (by kernel_rfl) rfl rfl ⟨(zq0 B1.out.1 1).trans rfl, EE.out⟩ (fun hHeld => ?_)
  generalize w3.drew = w4 at B1 B2 HI EE hHeld ⊢
  refine pure_ (i := 0) (N := some 20) (v := ?_) (a' := ?_) #[true, false, false, false, false, false, false, false, false, false, false] rfl rfl (by kernel_rfl) (fun _ _ _ h => h) (Or.inl ⟨by rfl, ?_⟩) ?_ ?_
  rotate_left
  · intro w'
    go_simp
    with_reducible rfl
  rotate_left
  · simp only[Act.put, List.setIfInBounds_toArray, List.set_cons_zero, List.set_cons_succ, i64_w, i32_w]
    rfl
  refine take_ (i := 1) (N := some 21) (v := ?_) (a' := ?_) #[true, true, false, false, false, false, false, false, false, false, false] rfl rfl (by kernel_rfl) (fun _ _ _ h => h) (Or.inl ⟨by rfl, ?_⟩) hHeld ?_ ?_
  rotate_left
  · rintro w' ⟨s0_, e0_, e1_, e2_, e3_, e4_⟩
    go_simp
    with_reducible rfl
  rotate_left
  · simp only[Act.put, List.setIfInBounds_toArray, List.set_cons_zero, List.set_cons_succ, i64_w, i32_w]
    rfl
  refine pure_ (i := 2) (N := some 22) (v := ?_) (a' := ?_) #[true, true, true, false, false, false, false, false, false, false, false] rfl rfl (by kernel_rfl) (fun _ _ _ h => h) (Or.inl ⟨by rfl, ?_⟩) ?_ ?_
  rotate_left
  · intro w'
    go_simp
    with_reducible rfl
  rotate_left
  · simp only[Act.put, List.setIfInBounds_toArray, List.set_cons_zero, List.set_cons_succ, i64_w, i32_w]
    rfl
  refine pure_ (i := 3) (N := some 23) (v := ?_) (a' := ?_) #[true, true, true, true, false, false, false, false, false, false, false] rfl rfl (by kernel_rfl) (fun _ _ _ h => h) (Or.inl ⟨by rfl, ?_⟩) ?_ ?_
  rotate_left
  · intro w'
    go_simp
    with_reducible rfl
  rotate_left
  · simp only[Act.put, List.setIfInBounds_toArray, List.set_cons_zero, List.set_cons_succ, i64_w, i32_w]
    rfl
  refine take_ (i := 4) (N := some 24) (v := ?_) (a' := ?_) #[true, true, true, true, true, false, false, false, false, false, false] rfl rfl (by kernel_rfl) (fun _ _ _ h => h) (Or.inl ⟨by rfl, ?_⟩) hHeld ?_ ?_
  rotate_left
  · rintro w' ⟨s0_, e0_, e1_, e2_, e3_, e4_⟩
    go_simp
    with_reducible rfl
  rotate_left
  · simp only[Act.put, List.setIfInBounds_toArray, List.set_cons_zero, List.set_cons_succ, i64_w, i32_w]
    rfl
  refine pure_ (i := 5) (N := some 25) (v := ?_) (a' := ?_) #[true, true, true, true, true, true, false, false, false, false, false] rfl rfl (by kernel_rfl) (fun _ _ _ h => h) (Or.inl ⟨by rfl, ?_⟩) ?_ ?_
  rotate_left
  · intro w'
    go_simp
    with_reducible rfl
  rotate_left
  · simp only[Act.put, List.setIfInBounds_toArray, List.set_cons_zero, List.set_cons_succ, i64_w, i32_w]
    rfl
  refine join_ (σ := Nat) 1 #[true, true, true, true, true, true, true, true, true, true, false] (fun s_ => [(26, .int .i64 t), (27, .pointer (some (ad.add (t.toNat*5)))), (28, .agg #[.int .i64 (zq4 l1_1 t).f0, .string (zq4 l1_1 t).f1.f0, .string (zq4 l1_1 t).f1.f1, .slice A3 (zq4 l1_1 t).f2.length c3, .slice A4 (zq4 l1_1 t).f3.length c4]), (6, .pointer (some ⟨s_, 0, none⟩))])
    (fun s_ w' => OwnB w0 w w' g gb1 #[.int .i64 a1_0, .slice (some ad) l1_1.length c1_1] 76 ∧ OwnB w0 w w' g gb2 #[.string (⟨#[]⟩ : ByteArray), .string (⟨#[]⟩ : ByteArray)] 24 ∧ OwnB w0 w w' g s_ #[.int .i64 0, .string (⟨#[]⟩ : ByteArray), .string (⟨#[]⟩ : ByteArray), .slice none 0 0, .slice none 0 0] 114 ∧ OfI w0 w w' g s0_0 s1 ∧ ElE w' ad t.toNat (zq4 l1_1 t) A3 c3 A4 c4 ∧ gb2 ≠ s_ ∧ ad.block ≠ s_) ?_ ?_
  rotate_left
  · intro hCont
    refine two_ (i := 6) (j := 9) (Ni := some 26) (Nj := some 6) #[true, true, true, true, true, true, true, false, false, false, false] #[true, true, true, true, true, true, false, false, false, true, false] rfl rfl rfl rfl (by kernel_rfl) (by decide) (by decide) (fun K hK => ?_) (fun K hK => ?_)
    · skip
      refine goes_ Tryz.func47 (by kernel_rfl) rfl #[.pointer (some ⟨g, 0, none⟩), .int .i64 (l1_1.length : Int)] (by rfl) rfl rfl (by(try simp only[List.map_toArray, List.map_cons, List.map_nil]); first | done | rfl | (simp only[List.length_drop, List.length_take]; rfl)) ?_
      with_reducible refine(yaa.calls k g s0_0 s0 (l1_1.length : Int) t s1 w0 _ (OfI.i HI.out) (OfI.b HI.out) A1.out).mono ?_
      rintro e w5 ⟨rfl, hi, hb, hk⟩
      refine⟨_, rfl, ?_⟩
      replace B1 := Aside0.mk (B1.out.keep hk)
      replace B2 := Aside0.mk (B2.out.keep hk)
      replace EE := Aside0.mk (EE.out.keep hk NG.out)
      replace HI := Aside0.mk (OfI.call HI.out hi hb hk)
      clear hi hb hk hHeld
      refine hK.out _ _ ⟨(zq0 B1.out.1 1).trans rfl, EE.out⟩ (fun hHeld => ?_)
      clear hK K
      refine norm_ (a' := ?_) ?_ ?_
      rotate_left
      · show Act.put _ (some 26) _ = _
        simp only[Act.put, List.setIfInBounds_toArray, List.set_cons_zero, List.set_cons_succ, i64_w, i32_w]
        rfl
      refine pure_ (i := 7) (N := some 27) (v := ?_) (a' := ?_) #[true, true, true, true, true, true, true, true, false, false, false] rfl rfl (by kernel_rfl) (fun _ _ _ h => h) (Or.inl ⟨by rfl, ?_⟩) ?_ ?_
      rotate_left
      · intro w'
        go_simp
        with_reducible rfl
      rotate_left
      · simp only[Act.put, List.setIfInBounds_toArray, List.set_cons_zero, List.set_cons_succ, i64_w, i32_w]
        rfl
      refine take_ (i := 8) (N := some 28) (v := ?_) (a' := ?_) #[true, true, true, true, true, true, true, true, true, false, false] rfl rfl (by kernel_rfl) (fun _ _ _ h => h) (Or.inl ⟨by rfl, ?_⟩) hHeld ?_ ?_
      rotate_left
      · rintro w' ⟨s0_, e0_, e1_, e2_, e3_, e4_⟩
        go_simp
        with_reducible rfl
      rotate_left
      · simp only[Act.put, List.setIfInBounds_toArray, List.set_cons_zero, List.set_cons_succ, i64_w, i32_w]
        rfl
      refine one_ (i := 9) (N := some 6) #[true, true, true, true, true, true, true, true, true, true, false] rfl rfl (by kernel_rfl) (by decide) (fun K hK => ?_)
      refine box_step ?hg (N := 6) ?hd (cs := #[.int .i64 0, .string (⟨#[]⟩ : ByteArray), .string (⟨#[]⟩ : ByteArray), .slice none 0 0, .slice none 0 0]) (t := 114) ?hr ?_; (case hd => rfl); (case hg => rfl); (case hr => first | (go_simp; done) | (go_simp; rfl))
      intro gb3 hg w6 hbox hb
      have B3 := Aside0.mk (OwnB.new HI.out hg hbox)
      have N23 := Aside0.mk (show gb2 ≠ gb3 by have := B2.out.lt; omega)
      have NA3 := Aside0.mk (show ad.block ≠ gb3 by have := EE.out.lt; omega)
      replace B1 := Aside0.mk (B1.out.below hb)
      replace B2 := Aside0.mk (B2.out.below hb)
      replace EE := Aside0.mk (EE.out.below hb)
      replace HI := Aside0.mk (HI.out.below hb)
      clear hbox hb hg hHeld
      refine hK.out _ _ ⟨(zq0 B1.out.1 1).trans rfl, EE.out⟩ (fun hHeld => ?_)
      clear hK K
      refine norm_ (a' := ?_) ?_ ?_
      rotate_left
      · show Act.put _ (some 6) _ = _
        simp only[Act.put, List.setIfInBounds_toArray, List.set_cons_zero, List.set_cons_succ, i64_w, i32_w]
        rfl
      exact norm_ (by simp only[putAll, Act.put, List.setIfInBounds_toArray, List.set_cons_zero, List.set_cons_succ]) (hCont gb3 _ ⟨B1.out, B2.out, B3.out, HI.out, EE.out, N23.out, NA3.out⟩)
    · skip
      refine box_step ?hg (N := 6) ?hd (cs := #[.int .i64 0, .string (⟨#[]⟩ : ByteArray), .string (⟨#[]⟩ : ByteArray), .slice none 0 0, .slice none 0 0]) (t := 114) ?hr ?_; (case hd => rfl); (case hg => rfl); (case hr => first | (go_simp; done) | (go_simp; rfl))
      intro gb3 hg w5 hbox hb
      have B3 := Aside0.mk (OwnB.new HI.out hg hbox)
      have N23 := Aside0.mk (show gb2 ≠ gb3 by have := B2.out.lt; omega)
      have NA3 := Aside0.mk (show ad.block ≠ gb3 by have := EE.out.lt; omega)
      replace B1 := Aside0.mk (B1.out.below hb)
      replace B2 := Aside0.mk (B2.out.below hb)
      replace EE := Aside0.mk (EE.out.below hb)
      replace HI := Aside0.mk (HI.out.below hb)
      clear hbox hb hg hHeld
      refine hK.out _ _ ⟨(zq0 B1.out.1 1).trans rfl, EE.out⟩ (fun hHeld => ?_)
      clear hK K
      refine norm_ (a' := ?_) ?_ ?_
      rotate_left
      · show Act.put _ (some 6) _ = _
        simp only[Act.put, List.setIfInBounds_toArray, List.set_cons_zero, List.set_cons_succ, i64_w, i32_w]
        rfl
      refine one_ (i := 6) (N := some 26) #[true, true, true, true, true, true, true, false, false, true, false] rfl rfl (by kernel_rfl) (by decide) (fun K hK => ?_)
      refine goes_ Tryz.func47 (by kernel_rfl) rfl #[.pointer (some ⟨g, 0, none⟩), .int .i64 (l1_1.length : Int)] (by rfl) rfl rfl (by(try simp only[List.map_toArray, List.map_cons, List.map_nil]); first | done | rfl | (simp only[List.length_drop, List.length_take]; rfl)) ?_
      with_reducible refine(yaa.calls k g s0_0 s0 (l1_1.length : Int) t s1 w0 _ (OfI.i HI.out) (OfI.b HI.out) A1.out).mono ?_
      rintro e w6 ⟨rfl, hi, hb, hk⟩
      refine⟨_, rfl, ?_⟩
      replace B1 := Aside0.mk (B1.out.keep hk)
      replace B2 := Aside0.mk (B2.out.keep hk)
      replace B3 := Aside0.mk (B3.out.keep hk)
      replace EE := Aside0.mk (EE.out.keep hk NG.out)
      replace HI := Aside0.mk (OfI.call HI.out hi hb hk)
      clear hi hb hk hHeld
      refine hK.out _ _ ⟨(zq0 B1.out.1 1).trans rfl, EE.out⟩ (fun hHeld => ?_)
      clear hK K
      refine norm_ (a' := ?_) ?_ ?_
      rotate_left
      · show Act.put _ (some 26) _ = _
        simp only[Act.put, List.setIfInBounds_toArray, List.set_cons_zero, List.set_cons_succ, i64_w, i32_w]
        rfl
      refine pure_ (i := 7) (N := some 27) (v := ?_) (a' := ?_) #[true, true, true, true, true, true, true, true, false, true, false] rfl rfl (by kernel_rfl) (fun _ _ _ h => h) (Or.inl ⟨by rfl, ?_⟩) ?_ ?_
      rotate_left
      · intro w'
        go_simp
        with_reducible rfl
      rotate_left
      · simp only[Act.put, List.setIfInBounds_toArray, List.set_cons_zero, List.set_cons_succ, i64_w, i32_w]
        rfl
      refine take_ (i := 8) (N := some 28) (v := ?_) (a' := ?_) #[true, true, true, true, true, true, true, true, true, true, false] rfl rfl (by kernel_rfl) (fun _ _ _ h => h) (Or.inl ⟨by rfl, ?_⟩) hHeld ?_ ?_
      rotate_left
      · rintro w' ⟨s0_, e0_, e1_, e2_, e3_, e4_⟩
        go_simp
        with_reducible rfl
      rotate_left
      · simp only[Act.put, List.setIfInBounds_toArray, List.set_cons_zero, List.set_cons_succ, i64_w, i32_w]
        rfl
      exact norm_ (by simp only[putAll, Act.put, List.setIfInBounds_toArray, List.set_cons_zero, List.set_cons_succ]) (hCont gb3 _ ⟨B1.out, B2.out, B3.out, HI.out, EE.out, N23.out, NA3.out⟩)
  rintro gb3 w7 ⟨hb1_, hb2_, hb3_, hi_, he_, n23, na3⟩
  clear B1 B2 HI EE hHeld
  have B1 := Aside0.mk hb1_
  have B2 := Aside0.mk hb2_
  have B3 := Aside0.mk hb3_
  have HI := Aside0.mk hi_
  have EE := Aside0.mk he_
  have N23 := Aside0.mk n23
  have NA3 := Aside0.mk na3
  clear hb1_ hb2_ hb3_ hi_ he_ n23 na3
  refine norm_ (a' := ?_) ?_ ?_
  rotate_left
  · simp only[putAll, Act.put, List.setIfInBounds_toArray, List.set_cons_zero, List.set_cons_succ]
    rfl
  refine last_ (i := 10) (N := none) #[true, true, true, true, true, true, true, true, true, true, true] rfl rfl (by kernel_rfl) (by decide) (fun K hK => ?_)
  have z0 : w7.cell? ⟨gb3, 0, none⟩ = some (.int .i64 0) := (zq0 B3.out.1 0).trans rfl
  have z1 : w7.cell? ⟨gb3, 1, none⟩ = some (.string (⟨#[]⟩ : ByteArray)) := (zq0 B3.out.1 1).trans rfl
  have z2 : w7.cell? ⟨gb3, 2, none⟩ = some (.string (⟨#[]⟩ : ByteArray)) := (zq0 B3.out.1 2).trans rfl
  have z3 : w7.cell? ⟨gb3, 3, none⟩ = some (.slice none 0 0) := (zq0 B3.out.1 3).trans rfl
  have z4 : w7.cell? ⟨gb3, 4, none⟩ = some (.slice none 0 0) := (zq0 B3.out.1 4).trans rfl
  have f0 := zq13 B3.out.1 0
  have f1 := zq13 B3.out.1 1
  have f2 := zq13 B3.out.1 2
  have f3 := zq13 B3.out.1 3
  have f4 := zq13 B3.out.1 4
  refine skip_ (w1 := ?_) (by rfl) rfl ?_ ?_
  rotate_left
  · go_simp
    rfl
  refine hK.out _ _ ?_
  clear hK K
  refine done_ (by kernel_rfl) ?_
  have n1 : OfI w0 w (((((w7.setCell ⟨gb3, 0, none⟩ (.int .i64 (zq4 l1_1 t).f0)).setCell ⟨gb3, 1, none⟩ (.string (zq4 l1_1 t).f1.f0)).setCell ⟨gb3, 2, none⟩ (.string (zq4 l1_1 t).f1.f1)).setCell ⟨gb3, 3, none⟩ (.slice A3 (zq4 l1_1 t).f2.length c3)).setCell ⟨gb3, 4, none⟩ (.slice A4 (zq4 l1_1 t).f3.length c4)) g s0_0 s1 := HI.out.far5 B3.out.2.1 B3.out.2.2.1 B3.out.2.2.2
  have n2 : OwnB w0 w (((((w7.setCell ⟨gb3, 0, none⟩ (.int .i64 (zq4 l1_1 t).f0)).setCell ⟨gb3, 1, none⟩ (.string (zq4 l1_1 t).f1.f0)).setCell ⟨gb3, 2, none⟩ (.string (zq4 l1_1 t).f1.f1)).setCell ⟨gb3, 3, none⟩ (.slice A3 (zq4 l1_1 t).f2.length c3)).setCell ⟨gb3, 4, none⟩ (.slice A4 (zq4 l1_1 t).f3.length c4)) g gb2 #[.string (⟨#[]⟩ : ByteArray), .string (⟨#[]⟩ : ByteArray)] 24 := B2.out.far5 N23.out
  have n3 : OwnB w0 w (((((w7.setCell ⟨gb3, 0, none⟩ (.int .i64 (zq4 l1_1 t).f0)).setCell ⟨gb3, 1, none⟩ (.string (zq4 l1_1 t).f1.f0)).setCell ⟨gb3, 2, none⟩ (.string (zq4 l1_1 t).f1.f1)).setCell ⟨gb3, 3, none⟩ (.slice A3 (zq4 l1_1 t).f2.length c3)).setCell ⟨gb3, 4, none⟩ (.slice A4 (zq4 l1_1 t).f3.length c4)) g gb3 #[.int .i64 (zq4 l1_1 t).f0, .string (zq4 l1_1 t).f1.f0, .string (zq4 l1_1 t).f1.f1, .slice A3 (zq4 l1_1 t).f2.length c3, .slice A4 (zq4 l1_1 t).f3.length c4] 114 := B3.out.put5
  have n4 : ElE (((((w7.setCell ⟨gb3, 0, none⟩ (.int .i64 (zq4 l1_1 t).f0)).setCell ⟨gb3, 1, none⟩ (.string (zq4 l1_1 t).f1.f0)).setCell ⟨gb3, 2, none⟩ (.string (zq4 l1_1 t).f1.f1)).setCell ⟨gb3, 3, none⟩ (.slice A3 (zq4 l1_1 t).f2.length c3)).setCell ⟨gb3, 4, none⟩ (.slice A4 (zq4 l1_1 t).f3.length c4)) ad t.toNat (zq4 l1_1 t) A3 c3 A4 c4 := EE.out.far5 NA3.out
  clear HI B1 B2 B3 EE z0 z1 z2 z3 z4 f0 f1 f2 f3 f4
  generalize ((((w7.setCell ⟨gb3, 0, none⟩ (.int .i64 (zq4 l1_1 t).f0)).setCell ⟨gb3, 1, none⟩ (.string (zq4 l1_1 t).f1.f0)).setCell ⟨gb3, 2, none⟩ (.string (zq4 l1_1 t).f1.f1)).setCell ⟨gb3, 3, none⟩ (.slice A3 (zq4 l1_1 t).f2.length c3)).setCell ⟨gb3, 4, none⟩ (.slice A4 (zq4 l1_1 t).f3.length c4) = w8 at n1 n2 n3 n4 ⊢
  have HI := Aside0.mk n1
  have B2 := Aside0.mk n2
  have B3 := Aside0.mk n3
  have EE := Aside0.mk n4
  clear n1 n2 n3 n4
  have y0 : w8.cell? ⟨gb3, 0, none⟩ = some (.int .i64 (zq4 l1_1 t).f0) := (zq0 B3.out.1 0).trans rfl
  have y3 : w8.cell? ⟨gb3, 3, none⟩ = some (.slice A3 (zq4 l1_1 t).f2.length c3) := (zq0 B3.out.1 3).trans rfl
  have HH2 := HH.out
  unfold ofItem at HH2
  by_cases hz : ((zq4 l1_1 t).f2.length : Int) = 0
  · skip
    skip
    replace HH2 := (if_pos hz).symm.trans HH2
    obtain⟨⟨u, d, s2⟩, A2, H2⟩ := Option.bind_eq_some_iff.mp HH2
    simp only[Option.some.injEq, Prod.mk.injEq]at H2
    obtain⟨rfl, rfl, rfl, rfl⟩ := H2
    replace A2 := Aside0.mk A2
    have cz : (((zq4 l1_1 t).f2.length : Int) == 0) = true := beq_iff_eq.mpr hz
    clear HH HH2 hz
    go_upto_region 5 with (fail)
    (try simp only[Act.put, List.setIfInBounds_toArray, List.set_cons_zero, List.set_cons_succ])
    replace HI := Aside0.mk HI.out.drew
    replace B2 := Aside0.mk B2.out.drew
    replace B3 := Aside0.mk B3.out.drew
    refine start_ (n := 6) (S := fun w' => w'.cell? ⟨gb3, 0, none⟩ = some (.int .i64 (zq4 l1_1 t).f0)) (ds := [5]) #[false, false, false, false, false, false] (by kernel_rfl) rfl rfl ((zq0 B3.out.1 0).trans rfl) (fun hHeld => ?_)
    generalize w8.drew = w9 at HI B2 B3 hHeld ⊢
    refine pure_ (i := 0) (N := some 33) (v := ?_) (a' := ?_) #[true, false, false, false, false, false] rfl rfl (by kernel_rfl) (fun _ _ _ h => h) (Or.inl ⟨by rfl, ?_⟩) ?_ ?_
    rotate_left
    · intro w'
      go_simp
      with_reducible rfl
    rotate_left
    · simp only[Act.put, List.setIfInBounds_toArray, List.set_cons_zero, List.set_cons_succ, i64_w, i32_w]
      rfl
    refine take_ (i := 1) (N := some 34) (v := ?_) (a' := ?_) #[true, true, false, false, false, false] rfl rfl (by kernel_rfl) (fun _ _ _ h => h) (Or.inl ⟨by rfl, ?_⟩) hHeld ?_ ?_
    rotate_left
    · rintro w' s0_
      go_simp
      with_reducible rfl
    rotate_left
    · simp only[Act.put, List.setIfInBounds_toArray, List.set_cons_zero, List.set_cons_succ, i64_w, i32_w]
      rfl
    refine pure_ (i := 2) (N := some 35) (v := ?_) (a' := ?_) #[true, true, true, false, false, false] rfl rfl (by kernel_rfl) (fun _ _ _ h => h) (Or.inl ⟨by rfl, ?_⟩) ?_ ?_
    rotate_left
    · intro w'
      go_simp
      with_reducible rfl
    rotate_left
    · simp only[Act.put, List.setIfInBounds_toArray, List.set_cons_zero, List.set_cons_succ, i64_w, i32_w]
      rfl
    refine one_ (i := 3) (N := some 36) #[true, true, true, true, false, false] rfl rfl (by kernel_rfl) (by decide) (fun K hK => ?_)
    refine goes_ Tryz.func130 (by kernel_rfl) rfl #[.pointer (some ⟨g, 0, none⟩)] (by rfl) rfl rfl (by(try simp only[List.map_toArray, List.map_cons, List.map_nil]); first | done | rfl | (simp only[List.length_drop, List.length_take]; rfl)) ?_
    with_reducible refine(yat.calls k g s0_0 s1 u d s2 w0 _ (OfI.i HI.out) (OfI.b HI.out) A2.out).mono ?_
    rintro e w10 ⟨rfl, hi, hb, hk⟩
    refine⟨_, rfl, ?_⟩
    replace B2 := Aside0.mk (B2.out.keep hk)
    replace B3 := Aside0.mk (B3.out.keep hk)
    replace HI := Aside0.mk (OfI.call HI.out hi hb hk)
    clear hi hb hk hHeld
    refine hK.out _ _ ((zq0 B3.out.1 0).trans rfl) (fun hHeld => ?_)
    clear hK K
    refine norm_ (a' := ?_) ?_ ?_
    rotate_left
    · show Act.put _ (some 36) _ = _
      simp only[Act.put, List.setIfInBounds_toArray, List.set_cons_zero, List.set_cons_succ, i64_w, i32_w]
      rfl
    refine pure_ (i := 4) (N := some 4) (v := ?_) (a' := ?_) #[true, true, true, true, true, false] rfl rfl (by kernel_rfl) (fun _ _ _ h => h) (Or.inl ⟨by rfl, ?_⟩) ?_ ?_
    rotate_left
    · intro w'
      go_simp
      with_reducible rfl
    rotate_left
    · simp only[Act.put, List.setIfInBounds_toArray, List.set_cons_zero, List.set_cons_succ, i64_w, i32_w]
      rfl
    refine last_ (i := 5) (N := none) #[true, true, true, true, true, true] rfl rfl (by kernel_rfl) (by decide) (fun K hK => ?_)
    have z0 : w10.cell? ⟨gb2, 0, none⟩ = some (.string (⟨#[]⟩ : ByteArray)) := (zq0 B2.out.1 0).trans rfl
    have z1 : w10.cell? ⟨gb2, 1, none⟩ = some (.string (⟨#[]⟩ : ByteArray)) := (zq0 B2.out.1 1).trans rfl
    have f0 := zq13 B2.out.1 0
    have f1 := zq13 B2.out.1 1
    refine skip_ (w1 := ?_) (by rfl) rfl ?_ ?_
    rotate_left
    · go_simp
      rfl
    refine hK.out _ _ ?_
    clear hK K
    refine done_ (by kernel_rfl) ?_
    go_wp2
    refine bodyPost_ret (results_tc rfl _ _ gb2 24 #[.string u, .string d] (0, 0) _ rfl (OwnB.put2 B2.out (.string u) (.string d)).1 Tryz.underlying24 rfl (by kernel_rfl)) rfl ?_
    exact⟨rfl, (HI.out.far B2.out.2.1 B2.out.2.2.1 B2.out.2.2.2 _).far B2.out.2.1 B2.out.2.2.1 B2.out.2.2.2 _⟩
  · skip
    skip
    replace HH2 := (if_neg hz).symm.trans HH2
    obtain⟨⟨u1, s2⟩, A2, H2⟩ := Option.bind_eq_some_iff.mp HH2
    have hu : 0 ≤ u1 ∧ u1<((zq4 l1_1 t).f2.length : Int) := by
      by_cases h_ : 0 ≤ u1 ∧ u1<((zq4 l1_1 t).f2.length : Int)
      · exact h_
      · exact absurd ((if_neg h_).symm.trans H2) (by simp)
    replace H2 := (if_pos hu).symm.trans H2
    simp only[Option.some.injEq, Prod.mk.injEq]at H2
    obtain⟨rfl, rfl, rfl, rfl⟩ := H2
    replace A2 := Aside0.mk A2
    have cz : (((zq4 l1_1 t).f2.length : Int) == 0) = false := beq_eq_false_iff_ne.mpr hz
    have hF : ∀ W_, KeepBut w8 W_ g none → Kd.C k143 W_ A3 (zq4 l1_1 t).f2.length (zq4 l1_1 t).f2 := fun W_ hk_ => (EE.out.keep hk_ NG.out).row (HR.out W_ (KeepBut.trans HI.out.2.2 hk_ (.inl rfl))) HT.out.1 HT.out.2
    obtain⟨ad2, eA2, v0, v1, _, _⟩ := at_T143 (hF w8 (KeepBut.refl _ _ _)) u1 hu.1 hu.2
    subst eA2
    have NG2 := Aside0.mk (show ad2.block ≠ g from Kd.foot_ne hF (by omega) (by decide))
    have V0 := Aside0.mk v0
    have V1 := Aside0.mk v1
    have p1 : (0 ≤ u1) = True := eq_true hu.1
    have q1 : (u1<((zq4 l1_1 t).f2.length : Int)) = True := eq_true hu.2
    clear HH HH2 hz hF v0 v1 hu
    go_upto_region 6 with (fail)
    (try simp only[Act.put, List.setIfInBounds_toArray, List.set_cons_zero, List.set_cons_succ])
    replace HI := Aside0.mk HI.out.drew
    replace B2 := Aside0.mk B2.out.drew
    replace B3 := Aside0.mk B3.out.drew
    have v0 : w8.drew.cell? (ad2.add (u1.toNat*4)) = some (.string (zq16 (zq4 l1_1 t).f2 u1).f0.f0) := V0.out
    have v1 : w8.drew.cell? ⟨(ad2.add (u1.toNat*4)).block, (ad2.add (u1.toNat*4)).off + 1, none⟩ = some (.string (zq16 (zq4 l1_1 t).f2 u1).f0.f1) := V1.out
    clear V0 V1
    refine start_ (n := 14) (S := fun w' => w'.cell? ⟨gb3, 0, none⟩ = some (.int .i64 (zq4 l1_1 t).f0) ∧ w'.cell? ⟨gb3, 3, none⟩ = some (.slice (some ad2) (zq4 l1_1 t).f2.length c3) ∧ w'.cell? (ad2.add (u1.toNat*4)) = some (.string (zq16 (zq4 l1_1 t).f2 u1).f0.f0) ∧ w'.cell? ⟨(ad2.add (u1.toNat*4)).block, (ad2.add (u1.toNat*4)).off + 1, none⟩ = some (.string (zq16 (zq4 l1_1 t).f2 u1).f0.f1)) (ds := [13]) #[false, false, false, false, false, false, false, false, false, false, false, false, false, false] (by kernel_rfl) rfl rfl ⟨(zq0 B3.out.1 0).trans rfl, (zq0 B3.out.1 3).trans rfl, v0, v1⟩ (fun hHeld => ?_)
    generalize w8.drew = w9 at HI B2 B3 v0 v1 hHeld ⊢
    have V0 := Aside0.mk v0
    have V1 := Aside0.mk v1
    clear v0 v1
    refine pure_ (i := 0) (N := some 37) (v := ?_) (a' := ?_) #[true, false, false, false, false, false, false, false, false, false, false, false, false, false] rfl rfl (by kernel_rfl) (fun _ _ _ h => h) (Or.inl ⟨by rfl, ?_⟩) ?_ ?_
    rotate_left
    · intro w'
      go_simp
      with_reducible rfl
    rotate_left
    · simp only[Act.put, List.setIfInBounds_toArray, List.set_cons_zero, List.set_cons_succ, i64_w, i32_w]
      rfl
    refine take_ (i := 1) (N := some 38) (v := ?_) (a' := ?_) #[true, true, false, false, false, false, false, false, false, false, false, false, false, false] rfl rfl (by kernel_rfl) (fun _ _ _ h => h) (Or.inl ⟨by rfl, ?_⟩) hHeld ?_ ?_
    rotate_left
    · rintro w' ⟨s0_, s1_, s2_, s3_⟩
      go_simp
      with_reducible rfl
    rotate_left
    · simp only[Act.put, List.setIfInBounds_toArray, List.set_cons_zero, List.set_cons_succ, i64_w, i32_w]
      rfl
    refine pure_ (i := 2) (N := some 39) (v := ?_) (a' := ?_) #[true, true, true, false, false, false, false, false, false, false, false, false, false, false] rfl rfl (by kernel_rfl) (fun _ _ _ h => h) (Or.inl ⟨by rfl, ?_⟩) ?_ ?_
    rotate_left
    · intro w'
      go_simp
      with_reducible rfl
    rotate_left
    · simp only[Act.put, List.setIfInBounds_toArray, List.set_cons_zero, List.set_cons_succ, i64_w, i32_w]
      rfl
    refine take_ (i := 3) (N := some 40) (v := ?_) (a' := ?_) #[true, true, true, true, false, false, false, false, false, false, false, false, false, false] rfl rfl (by kernel_rfl) (fun _ _ _ h => h) (Or.inl ⟨by rfl, ?_⟩) hHeld ?_ ?_
    rotate_left
    · rintro w' ⟨s0_, s1_, s2_, s3_⟩
      go_simp
      with_reducible rfl
    rotate_left
    · simp only[Act.put, List.setIfInBounds_toArray, List.set_cons_zero, List.set_cons_succ, i64_w, i32_w]
      rfl
    refine pure_ (i := 4) (N := some 41) (v := ?_) (a' := ?_) #[true, true, true, true, true, false, false, false, false, false, false, false, false, false] rfl rfl (by kernel_rfl) (fun _ _ _ h => h) (Or.inl ⟨by rfl, ?_⟩) ?_ ?_
    rotate_left
    · intro w'
      go_simp
      with_reducible rfl
    rotate_left
    · simp only[Act.put, List.setIfInBounds_toArray, List.set_cons_zero, List.set_cons_succ, i64_w, i32_w]
      rfl
    refine pure_ (i := 5) (N := some 42) (v := ?_) (a' := ?_) #[true, true, true, true, true, true, false, false, false, false, false, false, false, false] rfl rfl (by kernel_rfl) (fun _ _ _ h => h) (Or.inl ⟨by rfl, ?_⟩) ?_ ?_
    rotate_left
    · intro w'
      go_simp
      with_reducible rfl
    rotate_left
    · simp only[Act.put, List.setIfInBounds_toArray, List.set_cons_zero, List.set_cons_succ, i64_w, i32_w]
      rfl
    refine take_ (i := 6) (N := some 43) (v := ?_) (a' := ?_) #[true, true, true, true, true, true, true, false, false, false, false, false, false, false] rfl rfl (by kernel_rfl) (fun _ _ _ h => h) (Or.inl ⟨by rfl, ?_⟩) hHeld ?_ ?_
    rotate_left
    · rintro w' ⟨s0_, s1_, s2_, s3_⟩
      go_simp
      with_reducible rfl
    rotate_left
    · simp only[Act.put, List.setIfInBounds_toArray, List.set_cons_zero, List.set_cons_succ, i64_w, i32_w]
      rfl
    refine pure_ (i := 7) (N := some 44) (v := ?_) (a' := ?_) #[true, true, true, true, true, true, true, true, false, false, false, false, false, false] rfl rfl (by kernel_rfl) (fun _ _ _ h => h) (Or.inl ⟨by rfl, ?_⟩) ?_ ?_
    rotate_left
    · intro w'
      go_simp
      with_reducible rfl
    rotate_left
    · simp only[Act.put, List.setIfInBounds_toArray, List.set_cons_zero, List.set_cons_succ, i64_w, i32_w]
      rfl
    refine one_ (i := 8) (N := some 45) #[true, true, true, true, true, true, true, true, true, false, false, false, false, false] rfl rfl (by kernel_rfl) (by decide) (fun K hK => ?_)
    refine goes_ Tryz.func47 (by kernel_rfl) rfl #[.pointer (some ⟨g, 0, none⟩), .int .i64 ((zq4 l1_1 t).f2.length : Int)] (by rfl) rfl rfl (by(try simp only[List.map_toArray, List.map_cons, List.map_nil]); first | done | rfl | (simp only[List.length_drop, List.length_take]; rfl)) ?_
    with_reducible refine(yaa.calls k g s0_0 s1 ((zq4 l1_1 t).f2.length : Int) u1 s2 w0 _ (OfI.i HI.out) (OfI.b HI.out) A2.out).mono ?_
    rintro e w10 ⟨rfl, hi, hb, hk⟩
    refine⟨_, rfl, ?_⟩
    replace B2 := Aside0.mk (B2.out.keep hk)
    replace B3 := Aside0.mk (B3.out.keep hk)
    replace V0 := Aside0.mk (keep_cell hk V0.out (by first | (rw[zq15]; exact NG2.out) | (show(Addr.add _ _).block ≠ _; rw[zq15]; exact NG2.out)))
    replace V1 := Aside0.mk (keep_cell hk V1.out (by first | (rw[zq15]; exact NG2.out) | (show(Addr.add _ _).block ≠ _; rw[zq15]; exact NG2.out)))
    replace HI := Aside0.mk (OfI.call HI.out hi hb hk)
    clear hi hb hk hHeld
    refine hK.out _ _ ⟨(zq0 B3.out.1 0).trans rfl, (zq0 B3.out.1 3).trans rfl, V0.out, V1.out⟩ (fun hHeld => ?_)
    clear hK K
    refine norm_ (a' := ?_) ?_ ?_
    rotate_left
    · show Act.put _ (some 45) _ = _
      simp only[Act.put, List.setIfInBounds_toArray, List.set_cons_zero, List.set_cons_succ, i64_w, i32_w]
      rfl
    refine pure_ (i := 9) (N := some 46) (v := ?_) (a' := ?_) #[true, true, true, true, true, true, true, true, true, true, false, false, false, false] rfl rfl (by kernel_rfl) (fun _ _ _ h => h) (Or.inl ⟨by rfl, ?_⟩) ?_ ?_
    rotate_left
    · intro w'
      go_simp
      with_reducible rfl
    rotate_left
    · simp only[Act.put, List.setIfInBounds_toArray, List.set_cons_zero, List.set_cons_succ, i64_w, i32_w]
      rfl
    refine pure_ (i := 10) (N := some 47) (v := ?_) (a' := ?_) #[true, true, true, true, true, true, true, true, true, true, true, false, false, false] rfl rfl (by kernel_rfl) (fun _ _ _ h => h) (Or.inl ⟨by rfl, ?_⟩) ?_ ?_
    rotate_left
    · intro w'
      go_simp
      with_reducible rfl
    rotate_left
    · simp only[Act.put, List.setIfInBounds_toArray, List.set_cons_zero, List.set_cons_succ, i64_w, i32_w]
      rfl
    refine take_ (i := 11) (N := some 48) (v := ?_) (a' := ?_) #[true, true, true, true, true, true, true, true, true, true, true, true, false, false] rfl rfl (by kernel_rfl) (fun _ _ _ h => h) (Or.inl ⟨by rfl, ?_⟩) hHeld ?_ ?_
    rotate_left
    · rintro w' ⟨s0_, s1_, s2_, s3_⟩
      go_simp
      with_reducible rfl
    rotate_left
    · simp only[Act.put, List.setIfInBounds_toArray, List.set_cons_zero, List.set_cons_succ, i64_w, i32_w]
      rfl
    refine pure_ (i := 12) (N := some 4) (v := ?_) (a' := ?_) #[true, true, true, true, true, true, true, true, true, true, true, true, true, false] rfl rfl (by kernel_rfl) (fun _ _ _ h => h) (Or.inl ⟨by rfl, ?_⟩) ?_ ?_
    rotate_left
    · intro w'
      go_simp
      with_reducible rfl
    rotate_left
    · simp only[Act.put, List.setIfInBounds_toArray, List.set_cons_zero, List.set_cons_succ, i64_w, i32_w]
      rfl
    refine last_ (i := 13) (N := none) #[true, true, true, true, true, true, true, true, true, true, true, true, true, true] rfl rfl (by kernel_rfl) (by decide) (fun K hK => ?_)
    have z0 : w10.cell? ⟨gb2, 0, none⟩ = some (.string (⟨#[]⟩ : ByteArray)) := (zq0 B2.out.1 0).trans rfl
    have z1 : w10.cell? ⟨gb2, 1, none⟩ = some (.string (⟨#[]⟩ : ByteArray)) := (zq0 B2.out.1 1).trans rfl
    have f0 := zq13 B2.out.1 0
    have f1 := zq13 B2.out.1 1
    refine skip_ (w1 := ?_) (by rfl) rfl ?_ ?_
    rotate_left
    · go_simp
      rfl
    refine hK.out _ _ ?_
    clear hK K
    refine done_ (by kernel_rfl) ?_
    go_wp2
    refine bodyPost_ret (results_tc rfl _ _ gb2 24 #[.string (zq16 (zq4 l1_1 t).f2 u1).f0.f0, .string (zq16 (zq4 l1_1 t).f2 u1).f0.f1] (0, 0) _ rfl (OwnB.put2 B2.out (.string (zq16 (zq4 l1_1 t).f2 u1).f0.f0) (.string (zq16 (zq4 l1_1 t).f2 u1).f0.f1)).1 Tryz.underlying24 rfl (by kernel_rfl)) rfl ?_
    exact⟨rfl, (HI.out.far B2.out.2.1 B2.out.2.2.1 B2.out.2.2.2 _).far B2.out.2.1 B2.out.2.2.1 B2.out.2.2.2 _⟩
theorem ybs.calls (k : Nat)(g : Nat)(s0_0 : List Int)(s0_1 : Int)(a1_0 : Int)(A1_1 : Option Addr)(c1_1 : Nat)(l1_1 : List IT)(r1 : Int)(r2 r3 : ByteArray)(r4 : Int)(w0 w : World)(hI : IsS106 w0 w g s0_0 s0_1)(hB : Below w0.heap.size w0 w)
    (hr1_1 : ∀ W_, KeepBut w W_ g none → Kd.C k114 W_ A1_1 l1_1.length l1_1) (hc1_1 : l1_1.length ≤ c1_1) (h : ybs.f k s0_0 s0_1 a1_0 l1_1 = some (r1, r2, r3, r4)) :
    Calls Tryz.prog 89 #[.pointer (some ⟨g, 0, none⟩), .agg #[.int .i64 a1_0, .slice A1_1 l1_1.length c1_1]] w fun e w' => e = .returned (.tuple #[.int .i64 r1, .agg #[.string r2, .string r3]]) ∧ IsS106 w0 w' g s0_0 r4 ∧ Below w0.heap.size w0 w' ∧ KeepBut w w' g none := by
  have hO : OfI w0 w w g s0_0 s0_1 := ⟨hI, hB, KeepBut.refl _ _ _⟩
  unfold ybs.f at h
  by_cases hl : (l1_1.length : Int) = 0
  · exact ofFar1_calls k g s0_0 s0_1 a1_0 A1_1 c1_1 l1_1 r1 r2 r3 r4 w0 w hO hl ((if_pos hl).symm.trans h)
  · replace h := (if_neg hl).symm.trans h
    obtain⟨⟨t0, s0⟩, A0, H⟩ := Option.bind_eq_some_iff.mp h
    by_cases h0 : t0 = 0
    · subst h0
      exact ofFar2_calls k g s0_0 s0_1 a1_0 A1_1 c1_1 l1_1 r1 r2 r3 r4 w0 w hO hl s0 A0 ((if_pos rfl).symm.trans H)
    · exact ofNear_calls k g s0_0 s0_1 a1_0 A1_1 c1_1 l1_1 r1 r2 r3 r4 w0 w hO hr1_1 hc1_1 hl t0 s0 h0 A0 ((if_neg h0).symm.trans H)
end Go.Proofs.YtjdpdkdhfnpcgaaGreatDoor.Q
namespace Go.Proofs.YtjdpdkdhfnpcgaaGreatDoor.Q
open Go.RowKit Go.Proofs.YtjdpdkdhfnpcgaaGreatDoorW.PrintWords Go.Proofs.YtjdpdkdhfnpcgaaGreatDoorW.PrintLast Go.Proofs.YtjdpdkdhfnpcgaaGreatDoorW.PrintMore
attribute [local go_sem] max2_int min2_int max_two min_two max_three min_three max_four min_four
set_option linter.unusedVariables false
set_option linter.unusedSimpArgs false
def yaH.j0:Nat→Bool→List Int→Int→Int→List (S114)→Option (Int × Int × ByteArray × ByteArray × Int × ByteArray × ByteArray × (List (S24)) × List ByteArray × Int)
 | 0,_,_,_,_,_=>none
 | k+1,pb,cG,dh,py,jd=>if pb=true then((yad.f k cG dh).bind fun iL=>((yaa.f k cG iL.2.2.2.2 50).bind fun mO=>(some (1,0,(⟨#[]⟩:ByteArray),(⟨#[]⟩:ByteArray),mO.1,iL.1,iL.2.1,iL.2.2.1,iL.2.2.2.1,mO.2))))else((ybs.f k cG dh py jd).bind fun jm=>((yaa.f k cG jm.2.2.2 2).bind fun Ab=>(if Ab.1=0 then(some (2,jm.1,jm.2.1,jm.2.2.1,0,(⟨#[]⟩:ByteArray),(⟨#[]⟩:ByteArray),([]:List (S24)),([]:List ByteArray),Ab.2))else((yaa.f k cG Ab.2 50).bind fun rZ=>(some (3,jm.1,jm.2.1,jm.2.2.1,rZ.1,(⟨#[]⟩:ByteArray),(⟨#[]⟩:ByteArray),([]:List (S24)),([]:List ByteArray),rZ.2))))))
def yaH.f (k:Nat)(ah:List Int)(aE:Int)(aJ:Int)(cg:List (S114)):Option (Int × Int × ByteArray × ByteArray × Int × ByteArray × ByteArray × (List (S24)) × List ByteArray × Int):=if(cg.length:Int)=0 then(yaH.j0 k true ah aE aJ cg)else((yaa.f k ah aE 3).bind fun sa=>(yaH.j0 k (sa.1==0) ah sa.2 aJ cg))
theorem yaH.calls (k:Nat)(g:Nat)(ah:List Int)(aE:Int)(aJ:Int)(di:Option Addr)(dj:Nat)(cg:List (S114))(r1:Int)(r2:Int)(r3:ByteArray)(r4:ByteArray)(r5:Int)(r6:ByteArray)(r7:ByteArray)(r8:List (S24))(r9:List ByteArray)(iz:Int)(w0 w:World)(hI:IsS106 w0 w g ah aE)(hB:Below w0.heap.size w0 w)(sh:∀ W_,KeepBut w W_ g none→Kd.C k114 W_ di cg.length cg)(si:cg.length≤dj)(h:yaH.f k ah aE aJ cg=some (r1,r2,r3,r4,r5,r6,r7,r8,r9,iz)) :
 Calls Tryz.prog 45 #[.pointer (some ⟨g,0,none⟩),.agg #[.int .i64 aJ,.slice di cg.length dj]] w fun e w'=>∃ iA iB:Value,e=.returned (.agg #[.int .i64 r1,.int .i64 r2,.string r3,.string r4,.int .i64 r5,.string r6,.string r7,iA,iB])∧Kd.R k24 24 w' w.heap.size (fun _=>True) iA r8∧Kd.R Kd.string 9 w' w.heap.size (fun _=>True) iB r9∧IsS106 w0 w' g ah iz∧Below w0.heap.size w0 w'∧KeepBut w w' g none:=by
 have hu76:=Tryz.underlying76;have hu30:=Tryz.underlying30;have hu24:=Tryz.underlying24;have mP:=zA sh;have mQ:=zA si;clear sh si;have HI0:=zA hI;have HK:=zA (KeepBut.refl w g none);have HL:=zA hB.size;clear hI;have HW0:=zA hB.size;have HB:=zA hB;clear hB;have H:=h;clear h;unfold yaH.f at H;have nM:=zA H;clear H;go_enter Tryz.func45,Tryz.ntmps45;go_upto_region 1 with (first|((with_reducible refine zq5 (N:=3) rfl ?_);refine zE (N:=3) (cs:=#[.int .i64 aJ,.slice di cg.length dj]) (t:=76) ?_;intro ac hg w4 hbox hb;have aa:=zA hbox;have f7:=zA ((by rw[hg];exact(zq8 (w:=w) (g:=g) (row:=none) zH):w.heap.size≤ac));have f9:=zA ((Nat.le_trans HW0.out (by rw[hg];exact(zq8 (w:=w) (g:=g) (row:=none) zH):w.heap.size≤ac):w0.heap.size≤ac));replace HK:=zA (KeepBut.trans zH (KeepBut.of_below hb g none) (.inl rfl));have gD:=zA ((by rw[hg];exact Nat.ne_of_lt (IsS106.lt (show IsS106 w0 _ g ah aE from zI106)):g≠ac));have ca:=zA ((by rw[hg];exact Nat.ne_of_gt (IsS106.lt (show IsS106 w0 _ g ah aE from zI106)):ac≠g));replace HI0:=zA (IsS106.below zI106 hb);replace HB:=zA (zq1 zB hb);clear hb hbox hg)|((with_reducible refine zq5 (N:=4) rfl ?_);refine zE (N:=4) (cs:=#[.int .i64 0,.int .i64 0,.string bz0,.string bz0,.int .i64 0,.string bz0,.string bz0,.slice none 0 0,.slice none 0 0]) (t:=30) ?_;intro ae hg w5 hbox hb;have ab:=zA hbox;have j3:=zA ((by rw[hg];exact(zq8 (w:=w) (g:=g) (row:=none) zH):w.heap.size≤ae));have j4:=zA ((Nat.le_trans HW0.out (by rw[hg];exact(zq8 (w:=w) (g:=g) (row:=none) zH):w.heap.size≤ae):w0.heap.size≤ae));replace HK:=zA (KeepBut.trans zH (KeepBut.of_below hb g none) (.inl rfl));have bM:=zA (zNlt hg (zK aa.out):ac≠ae);have cM:=zA (zNgt hg (zK aa.out):ae≠ac);replace aa:=zA (zq2 (zK aa.out) hb);have kt:=zA ((by rw[hg];exact Nat.ne_of_lt (IsS106.lt (show IsS106 w0 _ g ah aE from zI106)):g≠ae));have en:=zA ((by rw[hg];exact Nat.ne_of_gt (IsS106.lt (show IsS106 w0 _ g ah aE from zI106)):ae≠g));replace HI0:=zA (IsS106.below zI106 hb);replace HB:=zA (zq1 zB hb);clear hb hbox hg))
 (try simp only[Act.put,zL0,zL1,zL2]);go_cut [15] (fun NL wc=>∃(kq:Nat) (Ac:Bool) (gb:Int),NL=.bool Ac∧Aside0 (yaH.j0 kq Ac ah gb aJ cg=some (r1,r2,r3,r4,r5,r6,r7,r8,r9,iz))∧Aside0 (kq≤k)∧Aside0 (wc.heap[ac]?=some (.cells #[.int .i64 aJ,(.slice di cg.length dj)] 76 (0,0)))∧Aside0 (wc.heap[ae]?=some (.cells #[.int .i64 0,.int .i64 0,.string bz0,.string bz0,.int .i64 0,.string bz0,.string bz0,(.slice none 0 0),(.slice none 0 0)] 30 (0,0)))∧Aside0 (IsS106 w0 wc g ah gb)∧Aside0 (KeepBut w wc g none)∧Aside0 (Below w0.heap.size w0 wc))
 case first =>
  have H:=nM.out;clear nM;replace H:=zh H zkQqn zkQNqnk;obtain⟨⟨c6b0,c6b1⟩,H⟩|⟨⟨c6b0,c6b1,c6⟩,H⟩:=H
  ·(first|rw[c6b0]|(simp only[i64_w,i32_w];rw[c6b0])|skip);have H':=zA H;clear H;have LO:=bM.out;have LP:=cM.out;have LQ:=ca.out;have LR:=gD.out;obtain⟨nc,ne⟩:=zc2 aa.out;obtain⟨nf,ng⟩:=zf2 aa.out;go_wp2;go_meet;case rel=>exact⟨_,(true),(aE),zY4,H',⟨by first|omega|exact Nat.le_refl _⟩,⟨zK aa.out⟩,⟨zK ab.out⟩,⟨zI106⟩,⟨zH⟩,⟨zB⟩⟩
  have c6b2:¬ (cg=[]):=fun h_=>c6 (by rw[h_];rfl);(first|rw[c6b0]|(simp only[i64_w,i32_w];rw[c6b0])|skip);replace H:=zM H;obtain⟨⟨dE,aK⟩,lm,H⟩:=H;(try dsimp only at H);have H':=zA H;clear H;have QQ:=bM.out;have QR:=cM.out;have GT:=ca.out;have GU:=gD.out;obtain⟨qm,qn⟩:=zc2 aa.out;obtain⟨qo,qp⟩:=zf2 aa.out;(go_wp2_with (first|(go_at_call 47;(with_reducible refine(yaa.calls k g ah aE 3 dE aK w0 _ ?side1 ?side2 lm.out).mono ?_);(case side1=>exact zI106);(case side2=>exact zB);rintro e eD ⟨rfl,hi,hb,hk⟩;replace aa:=zA (KeepBut.blk hk (g':=ac) (o:=.cells #[.int .i64 aJ,.slice di cg.length dj] 76 (0,0)) (zK aa.out) ca.out zY7);replace ab:=zA (KeepBut.blk hk (g':=ae) (o:=.cells #[.int .i64 0,.int .i64 0,.string bz0,.string bz0,.int .i64 0,.string bz0,.string bz0,.slice none 0 0,.slice none 0 0] 30 (0,0)) (zK ab.out) en.out zY7);replace HK:=zA (KeepBut.trans zH hk (.inl rfl));replace HB:=zA (hb);replace HI0:=zA (hi);clear hb hk hi)));go_meet;case rel=>exact⟨_,((dE==0)),(aK),zY4,H',⟨by first|omega|exact Nat.le_refl _⟩,⟨zK aa.out⟩,⟨zK ab.out⟩,⟨zI106⟩,⟨zH⟩,⟨zB⟩⟩
 case rest =>
  clear nM;(try clear c1);(try clear p2);(try clear c4);(try clear c6);(try clear c6b0);(try clear c6b1);(try clear c6b2);(try clear c7);(try clear c8);(try clear sH);(try clear qu);(try clear qm qn);(try clear nc ne);(try clear qo qp);(try clear nf ng);obtain⟨kq,Ac,gb,rfl,HA,HJ2,aa,ab,HI0,HK,HB⟩:=hcut;cases kq with
  | zero=>exact absurd HA.out (by simp[yaH.j0])
  | succ kj2 =>
   have H:=HA.out;clear HA;simp only[yaH.j0]at H;replace H:=zbp H;obtain⟨rfl,H⟩|⟨rfl,H⟩:=H
   ·replace H:=zM H;obtain⟨⟨bb,aZ,al,aj,bK⟩,k5,H⟩:=H;(try dsimp only at H);replace H:=zM H;obtain⟨⟨cD,bU⟩,gL,H⟩:=H;(try dsimp only at H);obtain⟨rfl,rfl,rfl,rfl,rfl,rfl,rfl,rfl,rfl,rfl⟩:=zs10 H;(go_wp2_with (first|((with_reducible refine zq3 (f:=88) rfl ?_);refine zq7 (some 17) rfl rfl Tryz.func88 zY2 rfl #[.pointer (some ⟨g,0,none⟩)] rfl zY0 ?_;(with_reducible refine(yad.calls kj2 g ah gb bb aZ al aj bK w0 _ ?side1 ?side2 k5.out).mono ?_);(case side1=>exact zI106);(case side2=>exact zB);rintro e jS ⟨jF,mJ,rfl,aC,bE,hi,hb,hk⟩;refine⟨_,rfl,?_⟩;replace aa:=zA (KeepBut.blk hk (g':=ac) (o:=.cells #[.int .i64 aJ,.slice di cg.length dj] 76 (0,0)) (zK aa.out) ca.out zY7);replace ab:=zA (KeepBut.blk hk (g':=ae) (o:=.cells #[.int .i64 0,.int .i64 0,.string bz0,.string bz0,.int .i64 0,.string bz0,.string bz0,.slice none 0 0,.slice none 0 0] 30 (0,0)) (zK ab.out) en.out zY7);have ax:=zA (Kd.z9 aC (zq8 (w:=w) (g:=g) (row:=none) zH));have aT:=zA (Kd.z9 bE (zq8 (w:=w) (g:=g) (row:=none) zH));replace HK:=zA (KeepBut.trans zH hk (.inl rfl));replace HB:=zA (hb);replace HI0:=zA (hi);clear hb hk hi aC bE)|((with_reducible refine zq3 (f:=47) rfl ?_);refine zq7 (some 19) rfl rfl Tryz.func47 zY2 rfl #[.pointer (some ⟨g,0,none⟩),.int .i64 50] rfl zY0 ?_;(with_reducible refine(yaa.calls kj2 g ah bK 50 cD bU w0 _ ?side1 ?side2 gL.out).mono ?_);(case side1=>exact zI106);(case side2=>exact zB);rintro e eH ⟨rfl,hi,hb,hk⟩;refine⟨_,rfl,?_⟩;replace aa:=zA (KeepBut.blk hk (g':=ac) (o:=.cells #[.int .i64 aJ,.slice di cg.length dj] 76 (0,0)) (zK aa.out) ca.out zY7);replace ab:=zA (KeepBut.blk hk (g':=ae) (o:=.cells #[.int .i64 0,.int .i64 0,.string bz0,.string bz0,.int .i64 0,.string bz0,.string bz0,.slice none 0 0,.slice none 0 0] 30 (0,0)) (zK ab.out) en.out zY7);replace ax:=zA (Kd.z10 (Kd.z8 (IsS106.apart (show IsS106 w0 _ g ah bK from zI106) (zVR ax.out) zY3) hk (fun _ h=>h.2)) (fun _ h=>h.1));replace aT:=zA (Kd.z10 (Kd.z8 (IsS106.apart (show IsS106 w0 _ g ah bK from zI106) (zVR aT.out) zY3) hk (fun _ h=>h.2)) (fun _ h=>h.1));replace HK:=zA (KeepBut.trans zH hk (.inl rfl));replace HB:=zA (hb);replace HI0:=zA (hi);clear hb hk hi;obtain⟨jx,jy,mi⟩:=Kd.z12 aT.out;subst mi;obtain⟨nT,jE,pC⟩:=Kd.z12 ax.out;subst pC;have BI:=cM.out;have BJ:=bM.out;have QS:=en.out;have QT:=kt.out;obtain⟨_,_,_,_,_,_,_,_,_⟩:=zc9 ab.out;obtain⟨_,_,_,_,_,_,_,_,_⟩:=zf9 ab.out)));refine bodyPost_ret (results_cell_row rfl _ _ ae 30 #[.int .i64 1,.int .i64 0,.string bz0,.string bz0,.int .i64 cD,.string bb,.string aZ,.slice nT al.length jE,.slice jx aj.length jy] (0,0) _ rfl (zG ab.out) Tryz.underlying30 rfl zY2) rfl ?_;exact⟨_,_,zT,by(with_reducible repeat(first|apply Kd.z1|apply Kd.z6|apply Kd.z5));exact Kd.z10 (zR9 ae (Kd.z13 ax.out ab.out zY3) (.int .i64 1) (.int .i64 0) (.string bz0) (.string bz0) (.int .i64 cD) (.string bb) (.string aZ) (.slice nT al.length jE) (.slice jx aj.length jy)) (fun _ hk=>trivial),by(with_reducible repeat(first|apply Kd.z1|apply Kd.z6|apply Kd.z5));exact Kd.z10 (zR9 ae (Kd.z13 aT.out ab.out zY3) (.int .i64 1) (.int .i64 0) (.string bz0) (.string bz0) (.int .i64 cD) (.string bb) (.string aZ) (.slice nT al.length jE) (.slice jx aj.length jy)) (fun _ hk=>trivial),zI106,zB,zH⟩
   replace H:=zM H;obtain⟨⟨bP,bV,jg,dt⟩,nu,H⟩:=H;(try dsimp only at H);replace H:=zM H;obtain⟨⟨cx,cW⟩,ln,H⟩:=H;(try dsimp only at H);replace H:=zh H zkQqn zkQNqnk;obtain⟨⟨c27b0,c27b1⟩,H⟩|⟨⟨c27b0,c27b1,qZ⟩,H⟩:=H
   ·obtain⟨rfl,rfl,rfl,rfl,rfl,rfl,rfl,rfl,rfl,rfl⟩:=zs10 H;have MI:=bM.out;have MJ:=cM.out;have sS:=ca.out;have sT:=gD.out;obtain⟨_,_⟩:=zc2 aa.out;obtain⟨_,_⟩:=zf2 aa.out;(go_wp2_with (first|((with_reducible refine zq3 (f:=89) rfl ?_);refine zq7 (some 24) rfl rfl Tryz.func89 zY2 rfl #[.pointer (some ⟨g,0,none⟩),.agg #[.int .i64 aJ,.slice di cg.length dj]] rfl zY0 ?_;(with_reducible refine(ybs.calls kj2 g ah gb aJ _ _ cg bP bV jg dt w0 _ ?side1 ?side2 ?side3 ?side4 nu.out).mono ?_);(case side1=>exact zI106);(case side2=>exact zB);(case side3=>exact Kd.C_foot_step mP.out zH);(case side4=>exact mQ.out);rintro e kB ⟨rfl,hi,hb,hk⟩;refine⟨_,rfl,?_⟩;replace aa:=zA (KeepBut.blk hk (g':=ac) (o:=.cells #[.int .i64 aJ,.slice di cg.length dj] 76 (0,0)) (zK aa.out) ca.out zY7);replace ab:=zA (KeepBut.blk hk (g':=ae) (o:=.cells #[.int .i64 0,.int .i64 0,.string bz0,.string bz0,.int .i64 0,.string bz0,.string bz0,.slice none 0 0,.slice none 0 0] 30 (0,0)) (zK ab.out) en.out zY7);replace HK:=zA (KeepBut.trans zH hk (.inl rfl));replace HB:=zA (hb);replace HI0:=zA (hi);clear hb hk hi)|((with_reducible refine zq5 (N:=6) rfl ?_);refine zE (N:=6) (cs:=#[.string bz0,.string bz0]) (t:=24) ?_;intro eV hg qq hbox hb;have fQ:=zA hbox;have NM:=zA ((by rw[hg];exact(zq8 (w:=w) (g:=g) (row:=none) zH):w.heap.size≤eV));have NN:=zA ((Nat.le_trans HW0.out (by rw[hg];exact(zq8 (w:=w) (g:=g) (row:=none) zH):w.heap.size≤eV):w0.heap.size≤eV));replace HK:=zA (KeepBut.trans zH (KeepBut.of_below hb g none) (.inl rfl));have Ad:=zA (zNlt hg (zK aa.out):ac≠eV);have Ae:=zA (zNgt hg (zK aa.out):eV≠ac);replace aa:=zA (zq2 (zK aa.out) hb);have jK:=zA (zNlt hg (zK ab.out):ae≠eV);have ef:=zA (zNgt hg (zK ab.out):eV≠ae);replace ab:=zA (zq2 (zK ab.out) hb);have Af:=zA ((by rw[hg];exact Nat.ne_of_lt (IsS106.lt (show IsS106 w0 _ g ah dt from zI106)):g≠eV));have pT:=zA ((by rw[hg];exact Nat.ne_of_gt (IsS106.lt (show IsS106 w0 _ g ah dt from zI106)):eV≠g));replace HI0:=zA (IsS106.below zI106 hb);replace HB:=zA (zq1 zB hb);clear hb hbox hg;have D7:=Ae.out;have D8:=Ad.out;have NO:=ef.out;have NP:=jK.out;have GR:=pT.out;have GS:=Af.out;obtain⟨_,_⟩:=zc2 fQ.out;obtain⟨_,_⟩:=zf2 fQ.out)|((with_reducible refine zq3 (f:=47) rfl ?_);refine zq7 (some 28) rfl rfl Tryz.func47 zY2 rfl #[.pointer (some ⟨g,0,none⟩),.int .i64 2] rfl zY0 ?_;(with_reducible refine(yaa.calls kj2 g ah dt 2 cx cW w0 _ ?side1 ?side2 ln.out).mono ?_);(case side1=>exact zI106);(case side2=>exact zB);rintro e sN ⟨rfl,hi,hb,hk⟩;refine⟨_,rfl,?_⟩;replace aa:=zA (KeepBut.blk hk (g':=ac) (o:=.cells #[.int .i64 aJ,.slice di cg.length dj] 76 (0,0)) (zG aa.out) ca.out zY7);replace ab:=zA (KeepBut.blk hk (g':=ae) (o:=.cells #[.int .i64 0,.int .i64 0,.string bz0,.string bz0,.int .i64 0,.string bz0,.string bz0,.slice none 0 0,.slice none 0 0] 30 (0,0)) (zG ab.out) en.out zY7);replace fQ:=zA (KeepBut.blk hk (g':=eV) (o:=.cells #[.string bV,.string jg] 24 (0,0)) (zG fQ.out) pT.out zY7);replace HK:=zA (KeepBut.trans zH hk (.inl rfl));replace HB:=zA (hb);replace HI0:=zA (hi);clear hb hk hi;obtain⟨_,_⟩:=zc2 fQ.out;obtain⟨_,_⟩:=zf2 fQ.out;have xG:=en.out;have xH:=kt.out;obtain⟨_,_,_,_,_,_,_,_,_⟩:=zc9 ab.out;obtain⟨_,_,_,_,_,_,_,_,_⟩:=zf9 ab.out)));refine bodyPost_ret (results_cell_row rfl _ _ ae 30 #[.int .i64 2,.int .i64 bP,.string bV,.string jg,.int .i64 0,.string bz0,.string bz0,.slice none 0 0,.slice none 0 0] (0,0) _ rfl (zG ab.out) Tryz.underlying30 rfl zY2) rfl ?_;exact⟨_,_,zT,zNil,zNil,zI106,zB,zH⟩
   replace H:=zM H;obtain⟨⟨cX,bJ⟩,xf,H⟩:=H;(try dsimp only at H);obtain⟨rfl,rfl,rfl,rfl,rfl,rfl,rfl,rfl,rfl,rfl⟩:=zs10 H;have tg:=bM.out;have th:=cM.out;have Dz:=ca.out;have DB:=gD.out;obtain⟨_,_⟩:=zc2 aa.out;obtain⟨_,_⟩:=zf2 aa.out;(try go_wp2_with (first|((with_reducible refine zq3 (f:=89) rfl ?_);refine zq7 (some 24) rfl rfl Tryz.func89 zY2 rfl #[.pointer (some ⟨g,0,none⟩),.agg #[.int .i64 aJ,.slice di cg.length dj]] rfl zY0 ?_;(with_reducible refine(ybs.calls kj2 g ah gb aJ _ _ cg bP bV jg dt w0 _ ?side1 ?side2 ?side3 ?side4 nu.out).mono ?_);(case side1=>exact zI106);(case side2=>exact zB);(case side3=>exact Kd.C_foot_step mP.out zH);(case side4=>exact mQ.out);rintro e re ⟨rfl,hi,hb,hk⟩;refine⟨_,rfl,?_⟩;replace aa:=zA (KeepBut.blk hk (g':=ac) (o:=.cells #[.int .i64 aJ,.slice di cg.length dj] 76 (0,0)) (zK aa.out) ca.out zY7);replace ab:=zA (KeepBut.blk hk (g':=ae) (o:=.cells #[.int .i64 0,.int .i64 0,.string bz0,.string bz0,.int .i64 0,.string bz0,.string bz0,.slice none 0 0,.slice none 0 0] 30 (0,0)) (zK ab.out) en.out zY7);replace HK:=zA (KeepBut.trans zH hk (.inl rfl));replace HB:=zA (hb);replace HI0:=zA (hi);clear hb hk hi)|((with_reducible refine zq5 (N:=6) rfl ?_);refine zE (N:=6) (cs:=#[.string bz0,.string bz0]) (t:=24) ?_;intro eV hg mb hbox hb;have fQ:=zA hbox;have NM:=zA ((by rw[hg];exact(zq8 (w:=w) (g:=g) (row:=none) zH):w.heap.size≤eV));have NN:=zA ((Nat.le_trans HW0.out (by rw[hg];exact(zq8 (w:=w) (g:=g) (row:=none) zH):w.heap.size≤eV):w0.heap.size≤eV));replace HK:=zA (KeepBut.trans zH (KeepBut.of_below hb g none) (.inl rfl));have Ad:=zA (zNlt hg (zK aa.out):ac≠eV);have Ae:=zA (zNgt hg (zK aa.out):eV≠ac);replace aa:=zA (zq2 (zK aa.out) hb);have jK:=zA (zNlt hg (zK ab.out):ae≠eV);have ef:=zA (zNgt hg (zK ab.out):eV≠ae);replace ab:=zA (zq2 (zK ab.out) hb);have Af:=zA ((by rw[hg];exact Nat.ne_of_lt (IsS106.lt (show IsS106 w0 _ g ah dt from zI106)):g≠eV));have pT:=zA ((by rw[hg];exact Nat.ne_of_gt (IsS106.lt (show IsS106 w0 _ g ah dt from zI106)):eV≠g));replace HI0:=zA (IsS106.below zI106 hb);replace HB:=zA (zq1 zB hb);clear hb hbox hg;have L6:=Ae.out;have L7:=Ad.out;have L8:=ef.out;have L9:=jK.out;have Ag:=pT.out;have Ah:=Af.out;obtain⟨_,_⟩:=zc2 fQ.out;obtain⟨_,_⟩:=zf2 fQ.out)|((with_reducible refine zq3 (f:=47) rfl ?_);refine zq7 (some 28) rfl rfl Tryz.func47 zY2 rfl #[.pointer (some ⟨g,0,none⟩),.int .i64 2] rfl zY0 ?_;(with_reducible refine(yaa.calls kj2 g ah dt 2 cx cW w0 _ ?side1 ?side2 ln.out).mono ?_);(case side1=>exact zI106);(case side2=>exact zB);rintro e tE ⟨rfl,hi,hb,hk⟩;refine⟨_,rfl,?_⟩;replace aa:=zA (KeepBut.blk hk (g':=ac) (o:=.cells #[.int .i64 aJ,.slice di cg.length dj] 76 (0,0)) (zG aa.out) ca.out zY7);replace ab:=zA (KeepBut.blk hk (g':=ae) (o:=.cells #[.int .i64 0,.int .i64 0,.string bz0,.string bz0,.int .i64 0,.string bz0,.string bz0,.slice none 0 0,.slice none 0 0] 30 (0,0)) (zG ab.out) en.out zY7);replace fQ:=zA (KeepBut.blk hk (g':=eV) (o:=.cells #[.string bV,.string jg] 24 (0,0)) (zG fQ.out) pT.out zY7);replace HK:=zA (KeepBut.trans zH hk (.inl rfl));replace HB:=zA (hb);replace HI0:=zA (hi);clear hb hk hi)));replace aa:=zA (blk_drew aa.out);replace ab:=zA (blk_drew ab.out);replace fQ:=zA (blk_drew fQ.out);replace HI0:=zA (IsS106.drew HI0.out);replace HK:=zA (keep_drew HK.out);replace HB:=zA (zq19 HB.out);refine start_ (n:=6) (S:=fun w'=>w'.cell? ⟨eV,0,none⟩=some (.string bV)∧w'.cell? ⟨eV,1,none⟩=some (.string jg)) (ds:=[]) #[false,false,false,false,false,false] zY2 rfl rfl ⟨zq0 fQ.out 0,zq0 fQ.out 1⟩ (fun hHeld=>?_);generalize tE.drew=gS at aa ab fQ HI0 HK HB hHeld ⊢;refine pure_ (i:=0) (N:=some 33) (v:=?_) (a':=?_) #[true,false,false,false,false,false] rfl rfl zY2 (fun _ _ _ h=>h) (Or.inl ⟨by rfl,?_⟩) ?_ ?_;rotate_left
   ·intro w';go_simp;with_reducible rfl
   rotate_left
   ·simp only[Act.put,zL0,zL1,zL2,i64_w,i32_w];rfl
   refine pure_ (i:=2) (N:=some 35) (v:=?_) (a':=?_) #[true,false,true,false,false,false] rfl rfl zY2 (fun _ _ _ h=>h) (Or.inl ⟨by rfl,?_⟩) ?_ ?_;rotate_left
   ·intro w';go_simp;with_reducible rfl
   rotate_left
   ·simp only[Act.put,zL0,zL1,zL2,i64_w,i32_w];rfl
   refine take_ (i:=1) (N:=some 34) (v:=?_) (a':=?_) #[true,true,true,false,false,false] rfl rfl zY2 (fun _ _ _ h=>h) (Or.inl ⟨by rfl,?_⟩) hHeld ?_ ?_;rotate_left
   ·rintro w' ⟨s0,s1⟩;go_simp;with_reducible rfl
   rotate_left
   ·simp only[Act.put,zL0,zL1,zL2,i64_w,i32_w];rfl
   refine one_ (i:=3) (N:=some 36) #[true,true,true,true,false,false] rfl rfl zY2 zY3 (fun K hK=>?_);refine goes_ Tryz.func47 zY2 rfl #[.pointer (some ⟨g,0,none⟩),.int .i64 50] zY15 rfl rfl zY0 ?_;(with_reducible refine(yaa.calls kj2 g ah cW 50 cX bJ w0 _ ?side1 ?side2 xf.out).mono ?_);(case side1=>exact zI106);(case side2=>exact zB);rintro e g7 ⟨rfl,hi,hb,hk⟩;refine⟨_,rfl,?_⟩;replace aa:=zA (KeepBut.blk hk (g':=ac) (o:=.cells #[.int .i64 aJ,.slice di cg.length dj] 76 (0,0)) (zK aa.out) ca.out zY7);replace ab:=zA (KeepBut.blk hk (g':=ae) (o:=.cells #[.int .i64 0,.int .i64 0,.string bz0,.string bz0,.int .i64 0,.string bz0,.string bz0,.slice none 0 0,.slice none 0 0] 30 (0,0)) (zK ab.out) en.out zY7);replace fQ:=zA (KeepBut.blk hk (g':=eV) (o:=.cells #[.string bV,.string jg] 24 (0,0)) (zK fQ.out) pT.out zY7);replace HK:=zA (KeepBut.trans zH hk (.inl rfl));replace HB:=zA (hb);replace HI0:=zA (hi);(try clear hb);(try clear hk);(try clear hi);refine hK.out _ _ ⟨zq0 fQ.out 0,zq0 fQ.out 1⟩ (fun hHeld=>?_);clear hK K;refine norm_ (a':=?_) ?_ ?_;rotate_left
   ·show Act.put _ (some 36) _=_;simp only[Act.put,zL0,zL1,zL2,i64_w,i32_w];rfl
   refine pure_ (i:=4) (N:=some 37) (v:=?_) (a':=?_) #[true,true,true,true,true,false] rfl rfl zY2 (fun _ _ _ h=>h) (Or.inl ⟨by rfl,?_⟩) ?_ ?_;rotate_left
   ·intro w';go_simp;with_reducible rfl
   rotate_left
   ·simp only[Act.put,zL0,zL1,zL2,i64_w,i32_w];rfl
   refine one_ (i:=5) (N:=none) #[true,true,true,true,true,true] rfl rfl zY2 zY3 (fun K hK=>?_);have hs54:g7.cell? ⟨ae,0,none⟩=some (.int .i64 0):=zq0 ab.out 0;have hfs54:=zq13 ab.out 0;have hns54_0:=bM.out;have hns54_2:=ef.out;have hms54_0:=cM.out;have hms54_2:=jK.out;have hs55:g7.cell? ⟨ae,1,none⟩=some (.int .i64 0):=zq0 ab.out 1;have hfs55:=zq13 ab.out 1;have hns55_0:=bM.out;have hns55_2:=ef.out;have hms55_0:=cM.out;have hms55_2:=jK.out;have hs56:g7.cell? ⟨ae,2,none⟩=some (.string bz0):=zq0 ab.out 2;have hfs56:=zq13 ab.out 2;have hns56_0:=bM.out;have hns56_2:=ef.out;have hms56_0:=cM.out;have hms56_2:=jK.out;have hs57:g7.cell? ⟨ae,3,none⟩=some (.string bz0):=zq0 ab.out 3;have hfs57:=zq13 ab.out 3;have hns57_0:=bM.out;have hns57_2:=ef.out;have hms57_0:=cM.out;have hms57_2:=jK.out;have hs58:g7.cell? ⟨ae,4,none⟩=some (.int .i64 0):=zq0 ab.out 4;have hfs58:=zq13 ab.out 4;have hns58_0:=bM.out;have hns58_2:=ef.out;have hms58_0:=cM.out;have hms58_2:=jK.out;have hs59:g7.cell? ⟨ae,5,none⟩=some (.string bz0):=zq0 ab.out 5;have hfs59:=zq13 ab.out 5;have hns59_0:=bM.out;have hns59_2:=ef.out;have hms59_0:=cM.out;have hms59_2:=jK.out;have hs60:g7.cell? ⟨ae,6,none⟩=some (.string bz0):=zq0 ab.out 6;have hfs60:=zq13 ab.out 6;have hns60_0:=bM.out;have hns60_2:=ef.out;have hms60_0:=cM.out;have hms60_2:=jK.out;have hs61:g7.cell? ⟨ae,7,none⟩=some (.slice none 0 0):=zq0 ab.out 7;have hfs61:=zq13 ab.out 7;have hns61_0:=bM.out;have hns61_2:=ef.out;have hms61_0:=cM.out;have hms61_2:=jK.out;have hs62:g7.cell? ⟨ae,8,none⟩=some (.slice none 0 0):=zq0 ab.out 8;have hfs62:=zq13 ab.out 8;have hns62_0:=bM.out;have hns62_2:=ef.out;have hms62_0:=cM.out;have hms62_2:=jK.out;refine skip_ (w1:=?_) zY15 rfl ?_ ?_;rotate_left
   ·go_simp;rfl
   refine hK.out _ _ ⟨((zq9 (p:=⟨ae,_,none⟩) ef.out _).trans (((zq9 (p:=⟨ae,_,none⟩) ef.out _).trans (((zq9 (p:=⟨ae,_,none⟩) ef.out _).trans (((zq9 (p:=⟨ae,_,none⟩) ef.out _).trans (((zq9 (p:=⟨ae,_,none⟩) ef.out _).trans (((zq9 (p:=⟨ae,_,none⟩) ef.out _).trans (((zq9 (p:=⟨ae,_,none⟩) ef.out _).trans (((zq9 (p:=⟨ae,_,none⟩) ef.out _).trans (((zq9 (p:=⟨ae,_,none⟩) ef.out _).trans (hHeld.1)))))))))))))))))),((zq9 (p:=⟨ae,_,none⟩) ef.out _).trans (((zq9 (p:=⟨ae,_,none⟩) ef.out _).trans (((zq9 (p:=⟨ae,_,none⟩) ef.out _).trans (((zq9 (p:=⟨ae,_,none⟩) ef.out _).trans (((zq9 (p:=⟨ae,_,none⟩) ef.out _).trans (((zq9 (p:=⟨ae,_,none⟩) ef.out _).trans (((zq9 (p:=⟨ae,_,none⟩) ef.out _).trans (((zq9 (p:=⟨ae,_,none⟩) ef.out _).trans (((zq9 (p:=⟨ae,_,none⟩) ef.out _).trans (hHeld.2))))))))))))))))))⟩ (fun hHeld=>?_);clear hK K;refine done_ zY2 ?_;(try go_wp2);refine bodyPost_ret (results_cell_row rfl _ _ ae 30 #[.int .i64 3,.int .i64 bP,.string bV,.string jg,.int .i64 cX,.string bz0,.string bz0,.slice none 0 0,.slice none 0 0] (0,0) _ rfl (zG ab.out) Tryz.underlying30 rfl zY2) rfl ?_;exact⟨_,_,zT,zNil,zNil,zI106,zB,zH⟩
def ybe.f (k:Nat)(ah:List Int)(aE:Int):Option (ByteArray × ByteArray × Int):=(yat.f k ah aE).bind fun lD=>((yaa.f k ah lD.2.2 10).bind fun ov=>(if ov.1=0 then((yax.f k ah ov.2 (([(⟨#[]⟩:ByteArray),(⟨#[65]⟩:ByteArray),(⟨#[116,111,111,108,111,110,103,110,97,109,101]⟩:ByteArray),(⟨#[97,64,98]⟩:ByteArray)]:List ByteArray))).bind fun ka=>(some (ka.1,lD.2.1,ka.2)))else(if ov.1=1 then((yax.f k ah ov.2 (([(⟨#[]⟩:ByteArray),(⟨#[97,46,46,98]⟩:ByteArray),(⟨#[46,97]⟩:ByteArray),(⟨#[97,46,98,46,99,46,100]⟩:ByteArray),(⟨#[85,112,46,111,114,103]⟩:ByteArray)]:List ByteArray))).bind fun jm=>(some (lD.1,jm.1,jm.2)))else(if ov.1=2 then(some ((⟨#[]⟩:ByteArray),(⟨#[]⟩:ByteArray),ov.2))else(some (lD.1,lD.2.1,ov.2))))))
theorem ybe.calls (k:Nat)(g:Nat)(ah:List Int)(aE:Int)(r1:ByteArray)(r2:ByteArray)(r3:Int)(w0 w:World)(hI:IsS106 w0 w g ah aE)(hB:Below w0.heap.size w0 w)(h:ybe.f k ah aE=some (r1,r2,r3)) :
 Calls Tryz.prog 101 #[.pointer (some ⟨g,0,none⟩)] w fun e w'=>e=.returned (.agg #[.string r1,.string r2])∧IsS106 w0 w' g ah r3∧Below w0.heap.size w0 w'∧KeepBut w w' g none:=by
 have hu24:=Tryz.underlying24;have HI0:=zA hI;have HK:=zA (KeepBut.refl w g none);have HL:=zA hB.size;clear hI;have HW0:=zA hB.size;have HB:=zA hB;clear hB;have H:=h;clear h;unfold ybe.f at H;obtain⟨⟨da,dE,aK⟩,A2,H⟩:=zM H;try dsimp only at H
 obtain⟨⟨aZ,al⟩,A3,H⟩:=zM H;try dsimp only at H
 obtain⟨⟨c4b0,c4b1⟩,H⟩|⟨⟨c4b0,c4b1,c4⟩,H⟩:=zh H zkQqn zkQNqnk
 ·obtain⟨Ai,Aj⟩:∃ y_:List ByteArray,y_=(([bz0,bz13,bz14,bz15]:List ByteArray)):=⟨_,rfl⟩;replace H:((yax.f k ah al Ai).bind fun ka=>(some (ka.1,dE,ka.2)))=some (r1,r2,r3):=zX Aj H;have Ey:=zA Aj;clear Aj;obtain⟨⟨bT,ct⟩,A5,H⟩:=zM H;(try dsimp only at H);obtain⟨rfl,rfl,rfl⟩:=zs3 H;go_enter Tryz.func101,Tryz.ntmps101;(go_wp2_with (first|((with_reducible refine zq5 (N:=2) rfl ?_);refine zE (N:=2) (cs:=#[.string bz0,.string bz0]) (t:=24) ?_;intro ac hg w6 hbox hb;have aa:=zA hbox;have f7:=zA ((by rw[hg];exact(zq8 (w:=w) (g:=g) (row:=none) zH):w.heap.size≤ac));have f9:=zA ((Nat.le_trans HW0.out (by rw[hg];exact(zq8 (w:=w) (g:=g) (row:=none) zH):w.heap.size≤ac):w0.heap.size≤ac));replace HK:=zA (KeepBut.trans zH (KeepBut.of_below hb g none) (.inl rfl));have gD:=zA ((by rw[hg];exact Nat.ne_of_lt (IsS106.lt (show IsS106 w0 _ g ah aE from zI106)):g≠ac));have ca:=zA ((by rw[hg];exact Nat.ne_of_gt (IsS106.lt (show IsS106 w0 _ g ah aE from zI106)):ac≠g));replace HI0:=zA (IsS106.below zI106 hb);replace HB:=zA (zq1 zB hb);clear hb hbox hg)|((with_reducible refine zq3 (f:=130) rfl ?_);refine zq7 (some 5) rfl rfl Tryz.func130 zY2 rfl #[.pointer (some ⟨g,0,none⟩)] rfl zY0 ?_;(with_reducible refine(yat.calls k g ah aE da dE aK w0 _ ?side1 ?side2 A2.out).mono ?_);(case side1=>exact zI106);(case side2=>exact zB);rintro e w7 ⟨rfl,hi,hb,hk⟩;refine⟨_,rfl,?_⟩;replace aa:=zA (KeepBut.blk hk (g':=ac) (o:=.cells #[.string bz0,.string bz0] 24 (0,0)) (zK aa.out) ca.out zY7);replace HK:=zA (KeepBut.trans zH hk (.inl rfl));replace HB:=zA (hb);replace HI0:=zA (hi);clear hb hk hi)|((with_reducible refine zq5 (N:=3) rfl ?_);refine zE (N:=3) (cs:=#[.string bz0,.string bz0]) (t:=24) ?_;intro dD hg w8 hbox hb;have dY:=zA hbox;have Ak:=zA ((by rw[hg];exact(zq8 (w:=w) (g:=g) (row:=none) zH):w.heap.size≤dD));have Al:=zA ((Nat.le_trans HW0.out (by rw[hg];exact(zq8 (w:=w) (g:=g) (row:=none) zH):w.heap.size≤dD):w0.heap.size≤dD));replace HK:=zA (KeepBut.trans zH (KeepBut.of_below hb g none) (.inl rfl));have ow:=zA (zNlt hg (zK aa.out):ac≠dD);have ox:=zA (zNgt hg (zK aa.out):dD≠ac);replace aa:=zA (zq2 (zK aa.out) hb);have oy:=zA ((by rw[hg];exact Nat.ne_of_lt (IsS106.lt (show IsS106 w0 _ g ah aK from zI106)):g≠dD));have jn:=zA ((by rw[hg];exact Nat.ne_of_gt (IsS106.lt (show IsS106 w0 _ g ah aK from zI106)):dD≠g));replace HI0:=zA (IsS106.below zI106 hb);replace HB:=zA (zq1 zB hb);clear hb hbox hg;have Ez:=ox.out;have EA:=ow.out;have tY:=jn.out;have tZ:=oy.out;obtain⟨_,_⟩:=zc2 dY.out;obtain⟨_,_⟩:=zf2 dY.out)|((with_reducible refine zq3 (f:=47) rfl ?_);refine zq7 (some 7) rfl rfl Tryz.func47 zY2 rfl #[.pointer (some ⟨g,0,none⟩),.int .i64 10] rfl zY0 ?_;(with_reducible refine(yaa.calls k g ah aK 10 aZ al w0 _ ?side1 ?side2 A3.out).mono ?_);(case side1=>exact zI106);(case side2=>exact zB);rintro e ew ⟨rfl,hi,hb,hk⟩;refine⟨_,rfl,?_⟩;replace aa:=zA (KeepBut.blk hk (g':=ac) (o:=.cells #[.string bz0,.string bz0] 24 (0,0)) (zG aa.out) ca.out zY7);replace dY:=zA (KeepBut.blk hk (g':=dD) (o:=.cells #[.string da,.string dE] 24 (0,0)) (zG dY.out) jn.out zY7);replace HK:=zA (KeepBut.trans zH hk (.inl rfl));replace HB:=zA (hb);replace HI0:=zA (hi);clear hb hk hi)|((with_reducible refine zq5 (N:=11) rfl ?_);refine Kd.R_lit Kd.string _ 9 ?hg (N:=11) ?hd (xs:=([bz0,bz13,bz14,bz15]:List ByteArray)) (inner:=[.string bz0,.string bz13,.string bz14,.string bz15]) (ok:=fun _=>True) (okp:=fun _=>True) ?hr ?hp (fun _ hk=>hk) trivial (Below.refl _ _) (Nat.le_refl _) zY7 ?_;(case hd=>rfl);(case hg=>rfl);(case hr=>first|(go_simp;done)|(go_simp;rfl));(case hp=>exact(Reps.one (show Kd.M Kd.string _ _ _ bz0 [.string bz0]from rfl) (Reps.one (show Kd.M Kd.string _ _ _ bz13 [.string bz13]from rfl) (Reps.one (show Kd.M Kd.string _ _ _ bz14 [.string bz14]from rfl) (Reps.one (show Kd.M Kd.string _ _ _ bz15 [.string bz15]from rfl) (Reps.none _ _))))));intro LW gy sj hb hg_ hnew_;clear hg_ hnew_;(first|rw[← Ey.out]at sj|(simp only[Int.reduceToNat]at sj;rw[← Ey.out]at sj));have j6:=zA (Kd.z9 sj (zq8 (w:=w) (g:=g) (row:=none) zH));replace HI0:=zA (IsS106.below zI106 hb);replace aa:=zA (zq2 (zK aa.out) hb);replace dY:=zA (zq2 (zK dY.out) hb);replace HK:=zA (KeepBut.trans zH (KeepBut.of_below hb g none) (.inl rfl));replace HB:=zA (zq1 zB hb);clear hb sj;obtain⟨dT,dU,nP⟩:=Kd.z12 j6.out;subst nP)|((with_reducible refine zq3 (f:=95) rfl ?_);refine zq7 (some 12) rfl rfl Tryz.func95 zY2 rfl #[.pointer (some ⟨g,0,none⟩),.slice dT Ai.length dU] rfl zY0 ?_;(with_reducible refine(yax.calls k g ah al _ _ Ai bT ct w0 _ ?side1 ?side2 ?side3 ?side4 ?side5 A5.out).mono ?_);(case side1=>exact zI106);(case side2=>exact zB);(case side3=>exact zC (Kd.z11 j6.out).2.2);(case side4=>exact(Kd.z11 j6.out).2.1);(case side5=>exact far_slice (IsS106.own_ne HI0.out j6.out zY3));rintro e o3 ⟨rfl,hi,hb,hk⟩;refine⟨_,rfl,?_⟩;replace aa:=zA (KeepBut.blk hk (g':=ac) (o:=.cells #[.string bz0,.string bz0] 24 (0,0)) (zK aa.out) ca.out zY7);replace dY:=zA (KeepBut.blk hk (g':=dD) (o:=.cells #[.string da,.string dE] 24 (0,0)) (zK dY.out) jn.out zY7);replace j6:=zA (Kd.z10 (Kd.z8 (IsS106.apart (show IsS106 w0 _ g ah al from zI106) (zVR j6.out) zY3) hk (fun _ h=>h.2)) (fun _ h=>h.1));replace HK:=zA (KeepBut.trans zH hk (.inl rfl));replace HB:=zA (hb);replace HI0:=zA (hi);clear hb hk hi;obtain⟨_,_⟩:=zc2 dY.out;obtain⟨_,_⟩:=zf2 dY.out;have MG:=ca.out;have MH:=gD.out;obtain⟨_,_⟩:=zc2 aa.out;obtain⟨_,_⟩:=zf2 aa.out)));refine bodyPost_ret (results_cell_row rfl _ _ ac 24 #[.string bT,.string dE] (0,0) _ rfl (zG aa.out) Tryz.underlying24 rfl zY2) rfl ?_;exact⟨zT,zI106,zB,zH⟩
 obtain⟨⟨c20b0,c20b1⟩,H⟩|⟨⟨c20b0,c20b1,nw⟩,H⟩:=zh H zkQqn zkQNqnk
 ·obtain⟨pE,nZ⟩:∃ y_:List ByteArray,y_=(([bz0,bz16,bz17,bz18,bz19]:List ByteArray)):=⟨_,rfl⟩;replace H:((yax.f k ah al pE).bind fun jm=>(some (da,jm.1,jm.2)))=some (r1,r2,r3):=zX nZ H;have t6:=zA nZ;clear nZ;obtain⟨⟨bP,bV⟩,ky,H⟩:=zM H;(try dsimp only at H);obtain⟨rfl,rfl,rfl⟩:=zs3 H;go_enter Tryz.func101,Tryz.ntmps101;(go_wp2_with (first|((with_reducible refine zq5 (N:=2) rfl ?_);refine zE (N:=2) (cs:=#[.string bz0,.string bz0]) (t:=24) ?_;intro ac hg sx hbox hb;have aa:=zA hbox;have f7:=zA ((by rw[hg];exact(zq8 (w:=w) (g:=g) (row:=none) zH):w.heap.size≤ac));have f9:=zA ((Nat.le_trans HW0.out (by rw[hg];exact(zq8 (w:=w) (g:=g) (row:=none) zH):w.heap.size≤ac):w0.heap.size≤ac));replace HK:=zA (KeepBut.trans zH (KeepBut.of_below hb g none) (.inl rfl));have gD:=zA ((by rw[hg];exact Nat.ne_of_lt (IsS106.lt (show IsS106 w0 _ g ah aE from zI106)):g≠ac));have ca:=zA ((by rw[hg];exact Nat.ne_of_gt (IsS106.lt (show IsS106 w0 _ g ah aE from zI106)):ac≠g));replace HI0:=zA (IsS106.below zI106 hb);replace HB:=zA (zq1 zB hb);clear hb hbox hg)|((with_reducible refine zq3 (f:=130) rfl ?_);refine zq7 (some 5) rfl rfl Tryz.func130 zY2 rfl #[.pointer (some ⟨g,0,none⟩)] rfl zY0 ?_;(with_reducible refine(yat.calls k g ah aE da dE aK w0 _ ?side1 ?side2 A2.out).mono ?_);(case side1=>exact zI106);(case side2=>exact zB);rintro e la ⟨rfl,hi,hb,hk⟩;refine⟨_,rfl,?_⟩;replace aa:=zA (KeepBut.blk hk (g':=ac) (o:=.cells #[.string bz0,.string bz0] 24 (0,0)) (zK aa.out) ca.out zY7);replace HK:=zA (KeepBut.trans zH hk (.inl rfl));replace HB:=zA (hb);replace HI0:=zA (hi);clear hb hk hi)|((with_reducible refine zq5 (N:=3) rfl ?_);refine zE (N:=3) (cs:=#[.string bz0,.string bz0]) (t:=24) ?_;intro dD hg pa hbox hb;have dY:=zA hbox;have Ak:=zA ((by rw[hg];exact(zq8 (w:=w) (g:=g) (row:=none) zH):w.heap.size≤dD));have Al:=zA ((Nat.le_trans HW0.out (by rw[hg];exact(zq8 (w:=w) (g:=g) (row:=none) zH):w.heap.size≤dD):w0.heap.size≤dD));replace HK:=zA (KeepBut.trans zH (KeepBut.of_below hb g none) (.inl rfl));have ow:=zA (zNlt hg (zK aa.out):ac≠dD);have ox:=zA (zNgt hg (zK aa.out):dD≠ac);replace aa:=zA (zq2 (zK aa.out) hb);have oy:=zA ((by rw[hg];exact Nat.ne_of_lt (IsS106.lt (show IsS106 w0 _ g ah aK from zI106)):g≠dD));have jn:=zA ((by rw[hg];exact Nat.ne_of_gt (IsS106.lt (show IsS106 w0 _ g ah aK from zI106)):dD≠g));replace HI0:=zA (IsS106.below zI106 hb);replace HB:=zA (zq1 zB hb);clear hb hbox hg;have ye:=ox.out;have yf:=ow.out;have yO:=jn.out;have yP:=oy.out;obtain⟨_,_⟩:=zc2 dY.out;obtain⟨_,_⟩:=zf2 dY.out)|((with_reducible refine zq3 (f:=47) rfl ?_);refine zq7 (some 7) rfl rfl Tryz.func47 zY2 rfl #[.pointer (some ⟨g,0,none⟩),.int .i64 10] rfl zY0 ?_;(with_reducible refine(yaa.calls k g ah aK 10 aZ al w0 _ ?side1 ?side2 A3.out).mono ?_);(case side1=>exact zI106);(case side2=>exact zB);rintro e eG ⟨rfl,hi,hb,hk⟩;refine⟨_,rfl,?_⟩;replace aa:=zA (KeepBut.blk hk (g':=ac) (o:=.cells #[.string bz0,.string bz0] 24 (0,0)) (zG aa.out) ca.out zY7);replace dY:=zA (KeepBut.blk hk (g':=dD) (o:=.cells #[.string da,.string dE] 24 (0,0)) (zG dY.out) jn.out zY7);replace HK:=zA (KeepBut.trans zH hk (.inl rfl));replace HB:=zA (hb);replace HI0:=zA (hi);clear hb hk hi)|((with_reducible refine zq5 (N:=17) rfl ?_);refine Kd.R_lit Kd.string _ 9 ?hg (N:=17) ?hd (xs:=([bz0,bz16,bz17,bz18,bz19]:List ByteArray)) (inner:=[.string bz0,.string bz16,.string bz17,.string bz18,.string bz19]) (ok:=fun _=>True) (okp:=fun _=>True) ?hr ?hp (fun _ hk=>hk) trivial (Below.refl _ _) (Nat.le_refl _) zY7 ?_;(case hd=>rfl);(case hg=>rfl);(case hr=>first|(go_simp;done)|(go_simp;rfl));(case hp=>exact(Reps.one (show Kd.M Kd.string _ _ _ bz0 [.string bz0]from rfl) (Reps.one (show Kd.M Kd.string _ _ _ bz16 [.string bz16]from rfl) (Reps.one (show Kd.M Kd.string _ _ _ bz17 [.string bz17]from rfl) (Reps.one (show Kd.M Kd.string _ _ _ bz18 [.string bz18]from rfl) (Reps.one (show Kd.M Kd.string _ _ _ bz19 [.string bz19]from rfl) (Reps.none _ _)))))));intro LZ me jj hb hg_ hnew_;clear hg_ hnew_;(first|rw[← t6.out]at jj|(simp only[Int.reduceToNat]at jj;rw[← t6.out]at jj));have mI:=zA (Kd.z9 jj (zq8 (w:=w) (g:=g) (row:=none) zH));replace HI0:=zA (IsS106.below zI106 hb);replace aa:=zA (zq2 (zK aa.out) hb);replace dY:=zA (zq2 (zK dY.out) hb);replace HK:=zA (KeepBut.trans zH (KeepBut.of_below hb g none) (.inl rfl));replace HB:=zA (zq1 zB hb);clear hb jj;obtain⟨NQ,NR,NS⟩:=Kd.z12 mI.out;subst NS)|((with_reducible refine zq3 (f:=95) rfl ?_);refine zq7 (some 18) rfl rfl Tryz.func95 zY2 rfl #[.pointer (some ⟨g,0,none⟩),.slice NQ pE.length NR] rfl zY0 ?_;(with_reducible refine(yax.calls k g ah al _ _ pE bP bV w0 _ ?side1 ?side2 ?side3 ?side4 ?side5 ky.out).mono ?_);(case side1=>exact zI106);(case side2=>exact zB);(case side3=>exact zC (Kd.z11 mI.out).2.2);(case side4=>exact(Kd.z11 mI.out).2.1);(case side5=>exact far_slice (IsS106.own_ne HI0.out mI.out zY3));rintro e qq ⟨rfl,hi,hb,hk⟩;refine⟨_,rfl,?_⟩;replace aa:=zA (KeepBut.blk hk (g':=ac) (o:=.cells #[.string bz0,.string bz0] 24 (0,0)) (zK aa.out) ca.out zY7);replace dY:=zA (KeepBut.blk hk (g':=dD) (o:=.cells #[.string da,.string dE] 24 (0,0)) (zK dY.out) jn.out zY7);replace mI:=zA (Kd.z10 (Kd.z8 (IsS106.apart (show IsS106 w0 _ g ah al from zI106) (zVR mI.out) zY3) hk (fun _ h=>h.2)) (fun _ h=>h.1));replace HK:=zA (KeepBut.trans zH hk (.inl rfl));replace HB:=zA (hb);replace HI0:=zA (hi);clear hb hk hi;obtain⟨_,_⟩:=zc2 dY.out;obtain⟨_,_⟩:=zf2 dY.out;have NO:=ca.out;have NP:=gD.out;obtain⟨_,_⟩:=zc2 aa.out;obtain⟨_,_⟩:=zf2 aa.out)));refine bodyPost_ret (results_cell_row rfl _ _ ac 24 #[.string da,.string bP] (0,0) _ rfl (zG aa.out) Tryz.underlying24 rfl zY2) rfl ?_;exact⟨zT,zI106,zB,zH⟩
 obtain⟨⟨c36b0,c36b1⟩,H⟩|⟨⟨c36b0,c36b1,CV⟩,H⟩:=zh H zkQqn zkQNqnk
 ·obtain⟨rfl,rfl,rfl⟩:=zs3 H;go_enter Tryz.func101,Tryz.ntmps101;(go_wp2_with (first|((with_reducible refine zq5 (N:=2) rfl ?_);refine zE (N:=2) (cs:=#[.string bz0,.string bz0]) (t:=24) ?_;intro ac hg sN hbox hb;have aa:=zA hbox;have f7:=zA ((by rw[hg];exact(zq8 (w:=w) (g:=g) (row:=none) zH):w.heap.size≤ac));have f9:=zA ((Nat.le_trans HW0.out (by rw[hg];exact(zq8 (w:=w) (g:=g) (row:=none) zH):w.heap.size≤ac):w0.heap.size≤ac));replace HK:=zA (KeepBut.trans zH (KeepBut.of_below hb g none) (.inl rfl));have gD:=zA ((by rw[hg];exact Nat.ne_of_lt (IsS106.lt (show IsS106 w0 _ g ah aE from zI106)):g≠ac));have ca:=zA ((by rw[hg];exact Nat.ne_of_gt (IsS106.lt (show IsS106 w0 _ g ah aE from zI106)):ac≠g));replace HI0:=zA (IsS106.below zI106 hb);replace HB:=zA (zq1 zB hb);clear hb hbox hg)|((with_reducible refine zq3 (f:=130) rfl ?_);refine zq7 (some 5) rfl rfl Tryz.func130 zY2 rfl #[.pointer (some ⟨g,0,none⟩)] rfl zY0 ?_;(with_reducible refine(yat.calls k g ah aE da dE aK w0 _ ?side1 ?side2 A2.out).mono ?_);(case side1=>exact zI106);(case side2=>exact zB);rintro e k9 ⟨rfl,hi,hb,hk⟩;refine⟨_,rfl,?_⟩;replace aa:=zA (KeepBut.blk hk (g':=ac) (o:=.cells #[.string bz0,.string bz0] 24 (0,0)) (zK aa.out) ca.out zY7);replace HK:=zA (KeepBut.trans zH hk (.inl rfl));replace HB:=zA (hb);replace HI0:=zA (hi);clear hb hk hi)|((with_reducible refine zq5 (N:=3) rfl ?_);refine zE (N:=3) (cs:=#[.string bz0,.string bz0]) (t:=24) ?_;intro dD hg CU hbox hb;have dY:=zA hbox;have Ak:=zA ((by rw[hg];exact(zq8 (w:=w) (g:=g) (row:=none) zH):w.heap.size≤dD));have Al:=zA ((Nat.le_trans HW0.out (by rw[hg];exact(zq8 (w:=w) (g:=g) (row:=none) zH):w.heap.size≤dD):w0.heap.size≤dD));replace HK:=zA (KeepBut.trans zH (KeepBut.of_below hb g none) (.inl rfl));have ow:=zA (zNlt hg (zK aa.out):ac≠dD);have ox:=zA (zNgt hg (zK aa.out):dD≠ac);replace aa:=zA (zq2 (zK aa.out) hb);have oy:=zA ((by rw[hg];exact Nat.ne_of_lt (IsS106.lt (show IsS106 w0 _ g ah aK from zI106)):g≠dD));have jn:=zA ((by rw[hg];exact Nat.ne_of_gt (IsS106.lt (show IsS106 w0 _ g ah aK from zI106)):dD≠g));replace HI0:=zA (IsS106.below zI106 hb);replace HB:=zA (zq1 zB hb);clear hb hbox hg;have G7:=ox.out;have G8:=ow.out;have Mm:=jn.out;have Mn:=oy.out;obtain⟨_,_⟩:=zc2 dY.out;obtain⟨_,_⟩:=zf2 dY.out)|((with_reducible refine zq3 (f:=47) rfl ?_);refine zq7 (some 7) rfl rfl Tryz.func47 zY2 rfl #[.pointer (some ⟨g,0,none⟩),.int .i64 10] rfl zY0 ?_;(with_reducible refine(yaa.calls k g ah aK 10 aZ al w0 _ ?side1 ?side2 A3.out).mono ?_);(case side1=>exact zI106);(case side2=>exact zB);rintro e na ⟨rfl,hi,hb,hk⟩;refine⟨_,rfl,?_⟩;replace aa:=zA (KeepBut.blk hk (g':=ac) (o:=.cells #[.string bz0,.string bz0] 24 (0,0)) (zG aa.out) ca.out zY7);replace dY:=zA (KeepBut.blk hk (g':=dD) (o:=.cells #[.string da,.string dE] 24 (0,0)) (zG dY.out) jn.out zY7);replace HK:=zA (KeepBut.trans zH hk (.inl rfl));replace HB:=zA (hb);replace HI0:=zA (hi);clear hb hk hi;have L3:=ca.out;have L4:=gD.out;obtain⟨_,_⟩:=zc2 aa.out;obtain⟨_,_⟩:=zf2 aa.out)));refine bodyPost_ret (results_cell_row rfl _ _ ac 24 #[.string bz0,.string bz0] (0,0) _ rfl (zG aa.out) Tryz.underlying24 rfl zY2) rfl ?_;exact⟨zT,zI106,zB,zH⟩
 obtain⟨rfl,rfl,rfl⟩:=zs3 H;go_enter Tryz.func101,Tryz.ntmps101;go_wp2_with (first|((with_reducible refine zq5 (N:=2) rfl ?_);refine zE (N:=2) (cs:=#[.string bz0,.string bz0]) (t:=24) ?_;intro ac hg mb hbox hb;have aa:=zA hbox;have f7:=zA ((by rw[hg];exact(zq8 (w:=w) (g:=g) (row:=none) zH):w.heap.size≤ac));have f9:=zA ((Nat.le_trans HW0.out (by rw[hg];exact(zq8 (w:=w) (g:=g) (row:=none) zH):w.heap.size≤ac):w0.heap.size≤ac));replace HK:=zA (KeepBut.trans zH (KeepBut.of_below hb g none) (.inl rfl));have gD:=zA ((by rw[hg];exact Nat.ne_of_lt (IsS106.lt (show IsS106 w0 _ g ah aE from zI106)):g≠ac));have ca:=zA ((by rw[hg];exact Nat.ne_of_gt (IsS106.lt (show IsS106 w0 _ g ah aE from zI106)):ac≠g));replace HI0:=zA (IsS106.below zI106 hb);replace HB:=zA (zq1 zB hb);clear hb hbox hg)|((with_reducible refine zq3 (f:=130) rfl ?_);refine zq7 (some 5) rfl rfl Tryz.func130 zY2 rfl #[.pointer (some ⟨g,0,none⟩)] rfl zY0 ?_;(with_reducible refine(yat.calls k g ah aE da dE aK w0 _ ?side1 ?side2 A2.out).mono ?_);(case side1=>exact zI106);(case side2=>exact zB);rintro e um ⟨rfl,hi,hb,hk⟩;refine⟨_,rfl,?_⟩;replace aa:=zA (KeepBut.blk hk (g':=ac) (o:=.cells #[.string bz0,.string bz0] 24 (0,0)) (zK aa.out) ca.out zY7);replace HK:=zA (KeepBut.trans zH hk (.inl rfl));replace HB:=zA (hb);replace HI0:=zA (hi);clear hb hk hi)|((with_reducible refine zq5 (N:=3) rfl ?_);refine zE (N:=3) (cs:=#[.string bz0,.string bz0]) (t:=24) ?_;intro dD hg kA hbox hb;have dY:=zA hbox;have Ak:=zA ((by rw[hg];exact(zq8 (w:=w) (g:=g) (row:=none) zH):w.heap.size≤dD));have Al:=zA ((Nat.le_trans HW0.out (by rw[hg];exact(zq8 (w:=w) (g:=g) (row:=none) zH):w.heap.size≤dD):w0.heap.size≤dD));replace HK:=zA (KeepBut.trans zH (KeepBut.of_below hb g none) (.inl rfl));have ow:=zA (zNlt hg (zK aa.out):ac≠dD);have ox:=zA (zNgt hg (zK aa.out):dD≠ac);replace aa:=zA (zq2 (zK aa.out) hb);have oy:=zA ((by rw[hg];exact Nat.ne_of_lt (IsS106.lt (show IsS106 w0 _ g ah aK from zI106)):g≠dD));have jn:=zA ((by rw[hg];exact Nat.ne_of_gt (IsS106.lt (show IsS106 w0 _ g ah aK from zI106)):dD≠g));replace HI0:=zA (IsS106.below zI106 hb);replace HB:=zA (zq1 zB hb);clear hb hbox hg;have Ag:=ox.out;have Ah:=ow.out;have BD:=jn.out;have BE:=oy.out;obtain⟨_,_⟩:=zc2 dY.out;obtain⟨_,_⟩:=zf2 dY.out)|((with_reducible refine zq3 (f:=47) rfl ?_);refine zq7 (some 7) rfl rfl Tryz.func47 zY2 rfl #[.pointer (some ⟨g,0,none⟩),.int .i64 10] rfl zY0 ?_;(with_reducible refine(yaa.calls k g ah aK 10 aZ al w0 _ ?side1 ?side2 A3.out).mono ?_);(case side1=>exact zI106);(case side2=>exact zB);rintro e gS ⟨rfl,hi,hb,hk⟩;refine⟨_,rfl,?_⟩;replace aa:=zA (KeepBut.blk hk (g':=ac) (o:=.cells #[.string bz0,.string bz0] 24 (0,0)) (zG aa.out) ca.out zY7);replace dY:=zA (KeepBut.blk hk (g':=dD) (o:=.cells #[.string da,.string dE] 24 (0,0)) (zG dY.out) jn.out zY7);replace HK:=zA (KeepBut.trans zH hk (.inl rfl));replace HB:=zA (hb);replace HI0:=zA (hi);clear hb hk hi;obtain⟨_,_⟩:=zc2 dY.out;obtain⟨_,_⟩:=zf2 dY.out;have Nc:=ca.out;have Nd:=gD.out;obtain⟨_,_⟩:=zc2 aa.out;obtain⟨_,_⟩:=zf2 aa.out))
 refine bodyPost_ret (results_cell_row rfl _ _ ac 24 #[.string da,.string dE] (0,0) _ rfl (zG aa.out) Tryz.underlying24 rfl zY2) rfl ?_;exact⟨zT,zI106,zB,zH⟩
end Go.Proofs.YtjdpdkdhfnpcgaaGreatDoor.Q
