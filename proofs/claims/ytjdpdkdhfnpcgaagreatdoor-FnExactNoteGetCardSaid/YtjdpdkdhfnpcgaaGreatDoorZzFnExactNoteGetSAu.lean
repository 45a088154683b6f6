/- What the walks of this claim say again and again. -/
import Derived.Test.YtjdpdkdhfnpcgaaGreatDoorZzFnExactNoteGetSWWords
import Derived.Test.YtjdpdkdhfnpcgaaGreatDoorZzFnExactNoteGetSWLast
import Derived.Test.YtjdpdkdhfnpcgaaGreatDoorZzFnExactNoteGetSWTab
import Derived.Test.YtjdpdkdhfnpcgaaGreatDoorZzFnExactNoteGetSWApart
import Derived.Test.YtjdpdkdhfnpcgaaGreatDoorZzFnExactNoteGetSWFoot
import Derived.Test.YtjdpdkdhfnpcgaaGreatDoorZzFnExactNoteGetSWKept
import Derived.Test.YtjdpdkdhfnpcgaaGreatDoorZzFnExactNoteGetSWShare
import Derived.Test.YtjdpdkdhfnpcgaaGreatDoorZzFnExactNoteGetSWN
import Derived.Test.YtjdpdkdhfnpcgaaGreatDoorZzFnExactNoteGetSWEqStruct
import Derived.Test.YtjdpdkdhfnpcgaaGreatDoorZzFnExactNoteGetSWRepsOne
import Derived.Test.YtjdpdkdhfnpcgaaGreatDoorZzFnExactNoteGetSWGuard
import Derived.Test.YtjdpdkdhfnpcgaaGreatDoorZzFnExactNoteGetSWMore
import Derived.Test.YtjdpdkdhfnpcgaaGreatDoorZzFnExactNoteGetSQ0
namespace Go.Proofs.YtjdpdkdhfnpcgaaGreatDoor.Q
open Go.RowKit Go.Proofs.YtjdpdkdhfnpcgaaGreatDoorW.PrintWords Go.Proofs.YtjdpdkdhfnpcgaaGreatDoorW.PrintLast Go.Proofs.YtjdpdkdhfnpcgaaGreatDoorW.PrintMore
set_option linter.unusedVariables false
theorem zB {P:Prop} (h:P:=by repeat (first|(with_reducible first|exact HB.out|apply below_alloc|apply pw_below_drewN|apply below_drew1|refine below_set ?_ (Aside0.out (by with_reducible assumption)))|exact HB.out)):P:=h
theorem zX {P Q R:Prop} (hy:R) (H:Q) (f:R → Q → P:=by intro hy H;first|(rw [hy];with_reducible exact H)|(have H2_:=(Option.bind_some _ _).symm.trans H;rw [hy];with_reducible exact H2_)|(have H2_:=(Option.bind_some _ _).symm.trans H;with_reducible exact H2_)|with_reducible exact H|(rw [hy];exact H)|exact H):P:=f hy H
theorem zfn:¬ (false=true):=by decide
theorem zS {a b:Nat} {W:World} (hg:b=W.heap.size) (h:a≤W.heap.size:=by exact zq7 zB):a≤b:=hg ▸ h
theorem zNlt {g b:Nat} {W:World} {o:Obj} (hg:b=W.heap.size) (h:W.heap[g]?=some o):g≠b:=hg ▸ Nat.ne_of_lt (blk_lt h)
theorem zNgt {g b:Nat} {W:World} {o:Obj} (hg:b=W.heap.size) (h:W.heap[g]?=some o):b≠g:=hg ▸ Nat.ne_of_gt (blk_lt h)
theorem zK {P Q:Prop} (q:Q) (f:Q → P:=by intro q;(with_reducible repeat (first|refine blk_drewN ?_ _|refine blk_drew ?_|refine blk_alloc ?_ _));exact q):P:=f q
theorem zVR {P Q:Prop} (q:Q) (f:Q → P:=by intro q;(with_reducible repeat (first|apply Kd.z1|apply Kd.z4|apply Kd.z3));exact q):P:=f q
theorem zfar {w:World} {g b j:Nat} {t:TypeId} {cs:Array Value} (h:w.heap[g]?=some (.cells cs t (0,0))) (hp:Aside0 (g ≠ b)) (u:Value):(w.setCell ⟨b,j,none⟩ u).heap[g]?=some (.cells cs t (0,0)):=blk_far h hp.out u
theorem zP2 {w:World} {g:Nat} {t:TypeId} {c0 c1 a0 a1:Value} (h:w.heap[g]?=some (.cells #[c0,c1] t (0,0))):((w.setCell ⟨g,0,none⟩ a0).setCell ⟨g,1,none⟩ a1).heap[g]?=some (.cells #[a0,a1] t (0,0)):=(blk_put (cs':=#[a0,a1]) (blk_put (cs':=#[a0,c1]) h 0 a0 rfl) 1 a1 rfl)
theorem zP4 {w:World} {g:Nat} {t:TypeId} {c0 c1 c2 c3 a0 a1 a2 a3:Value} (h:w.heap[g]?=some (.cells #[c0,c1,c2,c3] t (0,0))):((((w.setCell ⟨g,0,none⟩ a0).setCell ⟨g,1,none⟩ a1).setCell ⟨g,2,none⟩ a2).setCell ⟨g,3,none⟩ a3).heap[g]?=some (.cells #[a0,a1,a2,a3] t (0,0)):=(blk_put (cs':=#[a0,a1,a2,a3]) (blk_put (cs':=#[a0,a1,a2,c3]) (blk_put (cs':=#[a0,a1,c2,c3]) (blk_put (cs':=#[a0,c1,c2,c3]) h 0 a0 rfl) 1 a1 rfl) 2 a2 rfl) 3 a3 rfl)
theorem zP9 {w:World} {g:Nat} {t:TypeId} {c0 c1 c2 c3 c4 c5 c6 c7 c8 a0 a1 a2 a3 a4 a5 a6 a7 a8:Value} (h:w.heap[g]?=some (.cells #[c0,c1,c2,c3,c4,c5,c6,c7,c8] t (0,0))):(((((((((w.setCell ⟨g,0,none⟩ a0).setCell ⟨g,1,none⟩ a1).setCell ⟨g,2,none⟩ a2).setCell ⟨g,3,none⟩ a3).setCell ⟨g,4,none⟩ a4).setCell ⟨g,5,none⟩ a5).setCell ⟨g,6,none⟩ a6).setCell ⟨g,7,none⟩ a7).setCell ⟨g,8,none⟩ a8).heap[g]?=some (.cells #[a0,a1,a2,a3,a4,a5,a6,a7,a8] t (0,0)):=(blk_put (cs':=#[a0,a1,a2,a3,a4,a5,a6,a7,a8]) (blk_put (cs':=#[a0,a1,a2,a3,a4,a5,a6,a7,c8]) (blk_put (cs':=#[a0,a1,a2,a3,a4,a5,a6,c7,c8]) (blk_put (cs':=#[a0,a1,a2,a3,a4,a5,c6,c7,c8]) (blk_put (cs':=#[a0,a1,a2,a3,a4,c5,c6,c7,c8]) (blk_put (cs':=#[a0,a1,a2,a3,c4,c5,c6,c7,c8]) (blk_put (cs':=#[a0,a1,a2,c3,c4,c5,c6,c7,c8]) (blk_put (cs':=#[a0,a1,c2,c3,c4,c5,c6,c7,c8]) (blk_put (cs':=#[a0,c1,c2,c3,c4,c5,c6,c7,c8]) h 0 a0 rfl) 1 a1 rfl) 2 a2 rfl) 3 a3 rfl) 4 a4 rfl) 5 a5 rfl) 6 a6 rfl) 7 a7 rfl) 8 a8 rfl)
theorem zG {P Q:Prop} (q:Q) (f:Q → P:=by intro q;(with_reducible repeat (first|refine blk_drewN ?_ _|refine blk_drew ?_|refine blk_alloc ?_ _));first|(with_reducible exact zP2 q)|(with_reducible exact zP4 q)|(with_reducible exact zP9 q)|((repeat (first|(with_reducible first|refine blk_drewN ?_ _|refine blk_drew ?_|refine blk_alloc ?_ _)|(with_reducible apply zfar;case hp=>with_reducible assumption)|(with_reducible apply blk_put)|(apply zfar;case hp=>with_reducible assumption)|apply blk_put));exact q;all_goals rfl)):P:=f q
theorem zc2 {w:World} {g:Nat} {t:TypeId} {a0 a1:Value} (h:w.heap[g]?=some (.cells #[a0,a1] t (0,0))):w.cell? ⟨g,0,none⟩=some a0 ∧ w.cell? ⟨g,1,none⟩=some a1:=⟨zq3 h 0,zq3 h 1⟩
theorem zc4 {w:World} {g:Nat} {t:TypeId} {a0 a1 a2 a3:Value} (h:w.heap[g]?=some (.cells #[a0,a1,a2,a3] t (0,0))):w.cell? ⟨g,0,none⟩=some a0 ∧ w.cell? ⟨g,1,none⟩=some a1 ∧ w.cell? ⟨g,2,none⟩=some a2 ∧ w.cell? ⟨g,3,none⟩=some a3:=⟨zq3 h 0,zq3 h 1,zq3 h 2,zq3 h 3⟩
theorem zc9 {w:World} {g:Nat} {t:TypeId} {a0 a1 a2 a3 a4 a5 a6 a7 a8:Value} (h:w.heap[g]?=some (.cells #[a0,a1,a2,a3,a4,a5,a6,a7,a8] t (0,0))):w.cell? ⟨g,0,none⟩=some a0 ∧ w.cell? ⟨g,1,none⟩=some a1 ∧ w.cell? ⟨g,2,none⟩=some a2 ∧ w.cell? ⟨g,3,none⟩=some a3 ∧ w.cell? ⟨g,4,none⟩=some a4 ∧ w.cell? ⟨g,5,none⟩=some a5 ∧ w.cell? ⟨g,6,none⟩=some a6 ∧ w.cell? ⟨g,7,none⟩=some a7 ∧ w.cell? ⟨g,8,none⟩=some a8:=⟨zq3 h 0,zq3 h 1,zq3 h 2,zq3 h 3,zq3 h 4,zq3 h 5,zq3 h 6,zq3 h 7,zq3 h 8⟩
theorem zf2 {w:World} {g:Nat} {t:TypeId} {cs:Array Value} (h:w.heap[g]?=some (.cells cs t (0,0))):w.frozen? ⟨g,0,none⟩=false ∧ w.frozen? ⟨g,1,none⟩=false:=⟨blk_frozen h 0,blk_frozen h 1⟩
theorem zf4 {w:World} {g:Nat} {t:TypeId} {cs:Array Value} (h:w.heap[g]?=some (.cells cs t (0,0))):w.frozen? ⟨g,0,none⟩=false ∧ w.frozen? ⟨g,1,none⟩=false ∧ w.frozen? ⟨g,2,none⟩=false ∧ w.frozen? ⟨g,3,none⟩=false:=⟨blk_frozen h 0,blk_frozen h 1,blk_frozen h 2,blk_frozen h 3⟩
theorem zf9 {w:World} {g:Nat} {t:TypeId} {cs:Array Value} (h:w.heap[g]?=some (.cells cs t (0,0))):w.frozen? ⟨g,0,none⟩=false ∧ w.frozen? ⟨g,1,none⟩=false ∧ w.frozen? ⟨g,2,none⟩=false ∧ w.frozen? ⟨g,3,none⟩=false ∧ w.frozen? ⟨g,4,none⟩=false ∧ w.frozen? ⟨g,5,none⟩=false ∧ w.frozen? ⟨g,6,none⟩=false ∧ w.frozen? ⟨g,7,none⟩=false ∧ w.frozen? ⟨g,8,none⟩=false:=⟨blk_frozen h 0,blk_frozen h 1,blk_frozen h 2,blk_frozen h 3,blk_frozen h 4,blk_frozen h 5,blk_frozen h 6,blk_frozen h 7,blk_frozen h 8⟩
theorem zE {P:Program} {ops:Array Oper} {rest:List Oper} {o:Oper} {a:Act} {Q:Exit → Act → World → Prop} {W:World} {N:Tmp} {cs:Array Value} {t:TypeId} (h:∀ g,g=W.heap.size → ∀ w1,w1.heap[g]?=some (.cells cs t (0,0)) → Below W.heap.size W w1 → wpList P ops Q rest (a.put o.dst (.pointer (some ⟨g,0,none⟩))) w1) (hg:o.guard=none:=by rfl) (hd:o.dst=some N:=by rfl) (hr:(execOp a.eval o).run P W=.ok (.value (.pointer (some ⟨W.heap.size,0,none⟩))) (W.alloc (.cells cs t (0,0))):=by first|(go_simp;done)|(go_simp;rfl)):wpList P ops Q (o :: rest) a W:=box_event hg hd hr h
theorem zR2 {α:Type} {d:Kd α} {e:Nat} {w:World} {base:Nat} {ok:Nat → Prop} {v:Value} {xs:List α} (g:Nat) (h:d.R e w base (fun k=>ok k∧k≠g) v xs) (u0 u1:Value):d.R e ((w.setCell ⟨g,0,none⟩ u0).setCell ⟨g,1,none⟩ u1) base (fun k=>ok k∧k≠g) v xs:=(Kd.z5 (p:=⟨g,1,none⟩) (Kd.z5 (p:=⟨g,0,none⟩) h (fun _ hk=>hk.2) u0) (fun _ hk=>hk.2) u1)
theorem zR4 {α:Type} {d:Kd α} {e:Nat} {w:World} {base:Nat} {ok:Nat → Prop} {v:Value} {xs:List α} (g:Nat) (h:d.R e w base (fun k=>ok k∧k≠g) v xs) (u0 u1 u2 u3:Value):d.R e ((((w.setCell ⟨g,0,none⟩ u0).setCell ⟨g,1,none⟩ u1).setCell ⟨g,2,none⟩ u2).setCell ⟨g,3,none⟩ u3) base (fun k=>ok k∧k≠g) v xs:=(Kd.z5 (p:=⟨g,3,none⟩) (Kd.z5 (p:=⟨g,2,none⟩) (Kd.z5 (p:=⟨g,1,none⟩) (Kd.z5 (p:=⟨g,0,none⟩) h (fun _ hk=>hk.2) u0) (fun _ hk=>hk.2) u1) (fun _ hk=>hk.2) u2) (fun _ hk=>hk.2) u3)
theorem zR9 {α:Type} {d:Kd α} {e:Nat} {w:World} {base:Nat} {ok:Nat → Prop} {v:Value} {xs:List α} (g:Nat) (h:d.R e w base (fun k=>ok k∧k≠g) v xs) (u0 u1 u2 u3 u4 u5 u6 u7 u8:Value):d.R e (((((((((w.setCell ⟨g,0,none⟩ u0).setCell ⟨g,1,none⟩ u1).setCell ⟨g,2,none⟩ u2).setCell ⟨g,3,none⟩ u3).setCell ⟨g,4,none⟩ u4).setCell ⟨g,5,none⟩ u5).setCell ⟨g,6,none⟩ u6).setCell ⟨g,7,none⟩ u7).setCell ⟨g,8,none⟩ u8) base (fun k=>ok k∧k≠g) v xs:=(Kd.z5 (p:=⟨g,8,none⟩) (Kd.z5 (p:=⟨g,7,none⟩) (Kd.z5 (p:=⟨g,6,none⟩) (Kd.z5 (p:=⟨g,5,none⟩) (Kd.z5 (p:=⟨g,4,none⟩) (Kd.z5 (p:=⟨g,3,none⟩) (Kd.z5 (p:=⟨g,2,none⟩) (Kd.z5 (p:=⟨g,1,none⟩) (Kd.z5 (p:=⟨g,0,none⟩) h (fun _ hk=>hk.2) u0) (fun _ hk=>hk.2) u1) (fun _ hk=>hk.2) u2) (fun _ hk=>hk.2) u3) (fun _ hk=>hk.2) u4) (fun _ hk=>hk.2) u5) (fun _ hk=>hk.2) u6) (fun _ hk=>hk.2) u7) (fun _ hk=>hk.2) u8)
theorem zr {α:Type} {d:Kd α} {e:Nat} {w w1:World} {base:Nat} {ok:Nat → Prop} {v:Value} {xs:List α} (h:d.R e w base ok v xs) (f:d.R e w base ok v xs → d.R e w1 base ok v xs:=by intro q;(with_reducible repeat (first|apply Kd.z1|apply Kd.z4|apply Kd.z3));exact q):d.R e w1 base ok v xs:=f h
theorem zp {α:Type} {c:Prop} [Decidable c] {x:Option α} {r:α} (H:(if c then x else none)=some r):c∧x=some r:=by
 by_cases h:c
 ·rw [if_pos h] at H;exact ⟨h,H⟩
 ·rw [if_neg h] at H;cases H
theorem zn {α:Type} {c:Prop} [Decidable c] {x:Option α} {r:α} (H:(if c then none else x)=some r):¬c∧x=some r:=by
 by_cases h:c
 ·rw [if_pos h] at H;cases H
 ·rw [if_neg h] at H;exact ⟨h,H⟩
theorem zC {P Q:Prop} (q:Q) (f:Q → P:=by intro q;repeat (first|exact q|(with_reducible refine Kd.C_alloc ?_ _)|(with_reducible refine Kd.C_drewN ?_ _)|(with_reducible refine Kd.C_drew ?_))):P:=f q
theorem zg {P:Prop} (h:P:=by first|(with_reducible exact HG.out)|((with_reducible repeat (first|exact HG.out|apply GOK.drewN|apply GOK.drew));done)|exact GOK.below HG.out zB):P:=h
theorem zNil {P:Prop} (h:P:=by first|exact Kd.R_nil _ _ _ _ _|exact Kd.N_nil _ _ _ _ _|exact Kd.V_nil _ _ _ _ _|exact Kd.Q_nil _ _ _ _ _|exact Kd.S_nil _ _ _ _ _):P:=h
theorem zT {P:Prop} (h:P:=by first|rfl|(simp [errW_none,errW_some]<;>rfl)|(simp [*,errW_none,errW_some]<;>rfl)):P:=h
theorem zY0 {P:Prop} (h:P:=by (try simp only [zL3,zL4,zL5]);first|done|rfl|(simp only [zL6,zL7];rfl)):P:=h
theorem zY1 {P:Prop} (h:P:=by first|(with_reducible assumption)|assumption):P:=h
theorem zY2 {P:Prop} (h:P:=by kernel_rfl):P:=h
theorem zY3 {P:Prop} (h:P:=by first|rfl|(simp;done)|(simp [*];done)):P:=h
theorem zY4 {P:Prop} (h:P:=by decide):P:=h
theorem zY5 {P:Prop} (h:P:=by first|exact Kd.z12 (Kd.R_ne bz.out bM.out (by decide))|(rw [zq8];exact Kd.z12 (Kd.R_ne bz.out bM.out (by decide)))|(show (Addr.add _ _).block≠_;rw [zq8];exact Kd.z12 (Kd.R_ne bz.out bM.out (by decide)))|(dsimp only;exact Kd.z12 (Kd.R_ne bz.out bM.out (by decide)))):P:=h
theorem zY6 {P:Prop} (h:P:=by omega):P:=h
theorem zY7 {P:Prop} (h:P:=by exact zr (Kd.z7 (zR9 df (Kd.z10 cT.out cq.out (by decide)) (.int .i64 cZ) (.int .i64 aG) (.string dA) (.string dB) (.int .i64 dC) (.string bm) (.string cK) (.slice ct cb.length cj) (.slice da cw.length cO)) (fun _ h_=>h_.1))):P:=h
theorem zY8 {P:Prop} (h:P:=by exact zr (Kd.z7 (zR9 df (Kd.z10 cU.out cq.out (by decide)) (.int .i64 cZ) (.int .i64 aG) (.string dA) (.string dB) (.int .i64 dC) (.string bm) (.string cK) (.slice ct cb.length cj) (.slice da cw.length cO)) (fun _ h_=>h_.1))):P:=h
theorem zY9 {P:Prop} (h:P:=by exact zr (Kd.z7 (zR9 bQ (Kd.z10 go.out am.out (by decide)) (.int .i64 aT) (.int .i64 bG) (.string cd) (.string aX) (.int .i64 aY) (.string bA) (.string bb) (.slice bo bp.length bi) (.slice bk bq.length bc)) (fun _ h_=>h_.1))):P:=h
theorem zY10 {P:Prop} (h:P:=by exact zr (Kd.z7 (zR9 bQ (Kd.z10 gp.out am.out (by decide)) (.int .i64 aT) (.int .i64 bG) (.string cd) (.string aX) (.int .i64 aY) (.string bA) (.string bb) (.slice bo bp.length bi) (.slice bk bq.length bc)) (fun _ h_=>h_.1))):P:=h
theorem zY11 {P:Prop} (h:P:=by exact zr (Kd.z7 (zR9 bQ (Kd.z10 eA.out am.out (by decide)) (.int .i64 aT) (.int .i64 bG) (.string cd) (.string aX) (.int .i64 aY) (.string bA) (.string bb) (.slice bo bp.length bi) (.slice bk bq.length bc)) (fun _ h_=>h_.1))):P:=h
theorem zY12 {P:Prop} (h:P:=by exact zr (Kd.z7 (zR9 bQ (Kd.z10 eV.out am.out (by decide)) (.int .i64 aT) (.int .i64 bG) (.string cd) (.string aX) (.int .i64 aY) (.string bA) (.string bb) (.slice bo bp.length bi) (.slice bk bq.length bc)) (fun _ h_=>h_.1))):P:=h
theorem zY13 {P:Prop} (h:P:=by exact zr (Kd.z7 (zR9 df (Kd.z10 gq.out cq.out (by decide)) (.int .i64 cZ) (.int .i64 aG) (.string dA) (.string dB) (.int .i64 dC) (.string bm) (.string cK) (.slice ct cb.length cj) (.slice da cw.length cO)) (fun _ h_=>h_.1))):P:=h
theorem zY14 {P:Prop} (h:P:=by exact zr (Kd.z7 (zR9 df (Kd.z10 gr.out cq.out (by decide)) (.int .i64 cZ) (.int .i64 aG) (.string dA) (.string dB) (.int .i64 dC) (.string bm) (.string cK) (.slice ct cb.length cj) (.slice da cw.length cO)) (fun _ h_=>h_.1))):P:=h
theorem zY15 {P:Prop} (h:P:=by repeat (first|(with_reducible first|exact HK.out|apply Kept.alloc|apply Kept.drewN|apply Kept.drew)|exact HK.out)):P:=h
theorem zY16 {P:Prop} (h:P:=by (try simp only [zL3,zL4,zL5]);first|done|(rw [show d5.length=bp.length from (Kd.z8 bC.out).1.symm,show eO.length=bq.length from (Kd.z8 bD.out).1.symm]<;>rfl)|rfl|(simp only [zL6,zL7];rfl)):P:=h
theorem zY17 {P:Prop} (h:P:=by exact zr (Kd.z7 (Kd.z5 (p:=⟨bI,0,none⟩) (Kd.z10 cA.out az.out (by decide)) (fun _ hk=>hk.2) (.int .i64 2)) (fun _ h_=>h_.1))):P:=h
theorem zY18 {P:Prop} (h:P:=by first|(rw [zq8];exact g9)|(show (Addr.add _ _).block≠_;rw [zq8];exact g9)|exact g9):P:=h
theorem zY19 {P:Prop} (h:P:=by exact zr (Kd.z7 (zR9 df (Kd.z10 bC.out cq.out (by decide)) (.int .i64 cZ) (.int .i64 aG) (.string dA) (.string dB) (.int .i64 dC) (.string bm) (.string cK) (.slice ct cb.length cj) (.slice da cw.length cO)) (fun _ h_=>h_.1))):P:=h
theorem zY20 {P:Prop} (h:P:=by exact zr (Kd.z7 (zR9 df (Kd.z10 bD.out cq.out (by decide)) (.int .i64 cZ) (.int .i64 aG) (.string dA) (.string dB) (.int .i64 dC) (.string bm) (.string cK) (.slice ct cb.length cj) (.slice da cw.length cO)) (fun _ h_=>h_.1))):P:=h
theorem zY21 {P:Prop} (h:P:=by exact zr (Kd.z7 (zR9 dg (Kd.z10 dh.out cE.out (by decide)) (.int .i64 di) (.int .i64 dj) (.string dk) (.string dl) (.int .i64 dm) (.string dn) (.string dp) (.slice jp cP.length iT) (.slice jq cQ.length iU)) (fun _ h_=>h_.1))):P:=h
theorem zY22 {P:Prop} (h:P:=by exact zr (Kd.z7 (zR9 dg (Kd.z10 dq.out cE.out (by decide)) (.int .i64 di) (.int .i64 dj) (.string dk) (.string dl) (.int .i64 dm) (.string dn) (.string dp) (.slice jp cP.length iT) (.slice jq cQ.length iU)) (fun _ h_=>h_.1))):P:=h
theorem zY23 {P:Prop} (h:P:=by exact zr (Kd.z7 (zR9 dg (Kd.z10 dh.out cE.out (by decide)) (.int .i64 di) (.int .i64 dj) (.string dk) (.string dl) (.int .i64 dm) (.string dn) (.string dp) (.slice kj cP.length jr) (.slice fw cQ.length eW)) (fun _ h_=>h_.1))):P:=h
theorem zY24 {P:Prop} (h:P:=by exact zr (Kd.z7 (zR9 dg (Kd.z10 dq.out cE.out (by decide)) (.int .i64 di) (.int .i64 dj) (.string dk) (.string dl) (.int .i64 dm) (.string dn) (.string dp) (.slice kj cP.length jr) (.slice fw cQ.length eW)) (fun _ h_=>h_.1))):P:=h
theorem zY25 {P:Prop} (h:P:=by exact zr (Kd.z7 (zR9 dg (Kd.z10 dh.out cE.out (by decide)) (.int .i64 di) (.int .i64 dj) (.string dk) (.string dl) (.int .i64 dm) (.string dn) (.string dp) (.slice bo cP.length bi) (.slice bk cQ.length bc)) (fun _ h_=>h_.1))):P:=h
theorem zY26 {P:Prop} (h:P:=by exact zr (Kd.z7 (zR9 dg (Kd.z10 dq.out cE.out (by decide)) (.int .i64 di) (.int .i64 dj) (.string dk) (.string dl) (.int .i64 dm) (.string dn) (.string dp) (.slice bo cP.length bi) (.slice bk cQ.length bc)) (fun _ h_=>h_.1))):P:=h
theorem zY27 {P:Prop} (h:P:=by exact zr (Kd.z7 (zR9 fc (Kd.z10 eA.out br.out (by decide)) (.int .i64 b7) (.int .i64 cV) (.string dR) (.string cu) (.int .i64 b8) (.string bZ) (.string cB) (.slice dY cg.length db) (.slice dG cF.length dc)) (fun _ h_=>h_.1))):P:=h
theorem zY28 {P:Prop} (h:P:=by exact zr (Kd.z7 (zR9 fc (Kd.z10 eV.out br.out (by decide)) (.int .i64 b7) (.int .i64 cV) (.string dR) (.string cu) (.int .i64 b8) (.string bZ) (.string cB) (.slice dY cg.length db) (.slice dG cF.length dc)) (fun _ h_=>h_.1))):P:=h
theorem zY29 {P:Prop} (h:P:=by repeat (first|(with_reducible first|exact HK.out|apply Kept.alloc|apply Kept.drewN|apply Kept.drew|refine Kept.setCell ?_ (.inr iV.out) _)|exact HK.out)):P:=h
theorem zY30 {P:Prop} (h:P:=by rfl):P:=h
theorem zY31 {P:Prop} (h:P:=by exact zr (Kd.z7 (Kd.z5 (p:=⟨ay,4,none⟩) (Kd.z5 (p:=⟨ay,0,none⟩) (Kd.z10 eB.out aK.out (by decide)) (fun _ hk=>hk.2) (.int .i64 1)) (fun _ hk=>hk.2) (.int .i64 bm)) (fun _ h_=>h_.1))):P:=h
theorem zY32 {P:Prop} (h:P:=by exact zr (Kd.z7 (Kd.z5 (p:=⟨ay,4,none⟩) (Kd.z5 (p:=⟨ay,0,none⟩) (Kd.z10 au.out aK.out (by decide)) (fun _ hk=>hk.2) (.int .i64 1)) (fun _ hk=>hk.2) (.int .i64 bm)) (fun _ h_=>h_.1))):P:=h
theorem zY33 {P:Prop} (h:P:=by (with_reducible repeat (first|apply Kd.z1|apply Kd.z4|apply Kd.z3));exact Kd.z7 au.out (fun _ hk=>⟨trivial,hk⟩)):P:=h
theorem zY34 {P:Prop} (h:P:=by first|(rw [zq8];exact kk)|(show (Addr.add _ _).block≠_;rw [zq8];exact kk)|exact kk):P:=h
theorem zY35 {P:Prop} (h:P:=by first|(rw [zq8];exact kl)|(show (Addr.add _ _).block≠_;rw [zq8];exact kl)|exact kl):P:=h
theorem zY36 {P:Prop} (h:P:=by first|(rw [zq8];exact km)|(show (Addr.add _ _).block≠_;rw [zq8];exact km)|exact km):P:=h
theorem zY37 {P:Prop} (h:P:=by first|(rw [zq8];exact kn)|(show (Addr.add _ _).block≠_;rw [zq8];exact kn)|exact kn):P:=h
theorem zY38 {P:Prop} (h:P:=by first|(rw [zq8];exact ko)|(show (Addr.add _ _).block≠_;rw [zq8];exact ko)|exact ko):P:=h
theorem zY39 {P:Prop} (h:P:=by first|(rw [zq8];exact kp)|(show (Addr.add _ _).block≠_;rw [zq8];exact kp)|exact kp):P:=h
theorem zY40 {P:Prop} (h:P:=by first|(rw [zq8];exact kr)|(show (Addr.add _ _).block≠_;rw [zq8];exact kr)|exact kr):P:=h
theorem zY41 {P:Prop} (h:P:=by first|(rw [zq8];exact ks)|(show (Addr.add _ _).block≠_;rw [zq8];exact ks)|exact ks):P:=h
theorem zY42 {P:Prop} (h:P:=by first|(rw [zq8];exact kt)|(show (Addr.add _ _).block≠_;rw [zq8];exact kt)|exact kt):P:=h
end Go.Proofs.YtjdpdkdhfnpcgaaGreatDoor.Q
