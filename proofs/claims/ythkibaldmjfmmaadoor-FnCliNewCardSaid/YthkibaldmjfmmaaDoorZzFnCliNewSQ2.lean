/- Of a text of ours what this claim needs. -/
import Derived.Test.YthkibaldmjfmmaaDoorZzFnCliNewSQ0
namespace Go.Proofs.YthkibaldmjfmmaaDoor.Q
open Go.RowKit Go.Proofs.YthkibaldmjfmmaaDoorW.PrintWords Go.Proofs.YthkibaldmjfmmaaDoorW.PrintLast Go.Proofs.YthkibaldmjfmmaaDoorW.PrintMore
attribute [local go_sem] max2_int min2_int max_two min_two max_three min_three max_four min_four
set_option linter.unusedVariables false
set_option linter.unusedSimpArgs false
def IsS127 (w0 W:World) (g:Nat) (f0:List Int) (f1:Int):Prop:=∃ A0 c0,W.heap[g]?=some (.cells #[.slice A0 f0.length c0,.int .i64 f1] 127 (0,0))∧w0.heap.size≤g∧Kd.C (Kd.int .u8) w0 A0 f0.length f0
theorem IsS127.grown {w0 W:World} {g:Nat} {f0:List Int} {f1:Int} {W1:World} {row:Option Nat} (h:IsS127 w0 W g f0 f1) (hw:W.grownBy W1 row) (hne:some g≠row):IsS127 w0 W1 g f0 f1:=by
 obtain ⟨A0,c0,hb,hg,hr0⟩:=h
 exact ⟨A0,c0,blk_grown hb hw hne,hg,hr0⟩
theorem IsS127.fresh {w0 W:World} {g:Nat} {f0:List Int} {f1:Int} (h:IsS127 w0 W g f0 f1):∀ k,W.heap.size≤k→k≠g:=by
 obtain ⟨A0,c0,hb,hg,hr0⟩:=h
 exact Kd.freshB hb
theorem IsS127.kept {w0 W:World} {g:Nat} {f0:List Int} {f1:Int} {W1:World} {S:Nat→Prop} (h:IsS127 w0 W g f0 f1) (hk:Kept W W1 S) (hne:¬ S g):IsS127 w0 W1 g f0 f1:=by
 obtain ⟨A0,c0,hb,hg,hr0⟩:=h
 exact ⟨A0,c0,blk_kept hb hk hne,hg,hr0⟩
theorem IsS127.below {w0 W:World} {g:Nat} {f0:List Int} {f1:Int} {W1:World} (h:IsS127 w0 W g f0 f1) (hw:Below W.heap.size W W1):IsS127 w0 W1 g f0 f1:=h.grown (grown_of_below hw none) (by simp)
theorem IsS127.alloc {w0 W:World} {g:Nat} {f0:List Int} {f1:Int} (h:IsS127 w0 W g f0 f1) (o:Obj):IsS127 w0 (W.alloc o) g f0 f1:=h.below (zq4 (Below.refl _ _) o)
theorem IsS127.drewN {w0 W:World} {g:Nat} {f0:List Int} {f1:Int} (h:IsS127 w0 W g f0 f1) (m:Nat):IsS127 w0 (W.drewN m) g f0 f1:=h
theorem IsS127.drew {w0 W:World} {g:Nat} {f0:List Int} {f1:Int} (h:IsS127 w0 W g f0 f1):IsS127 w0 W.drew g f0 f1:=h
theorem IsS127.apart {w0 W:World} {g:Nat} {f0:List Int} {f1:Int} {α:Type} {d:Kd α} {e:Nat} {base:Nat} {ok:Nat→Prop} {v:Value} {xs:List α} (h:IsS127 w0 W g f0 f1) (ho:d.R e W base ok v xs) (ht:∀ q,q ∈ e :: d.E→q≠127):d.R e W base (fun k=>ok k∧k≠g) v xs:=by
 obtain ⟨A0,c0,hb,hg,hr0⟩:=h
 exact Kd.z14 ho hb ht
theorem IsS127.own_ne {w0 W:World} {g:Nat} {f0:List Int} {f1:Int} {α:Type} {d:Kd α} {e:Nat} {base:Nat} {ok:Nat→Prop} {v:Value} {xs:List α} (h:IsS127 w0 W g f0 f1) (ho:d.R e W base ok v xs) (ht:e≠127):some g≠v.ownBlock:=by
 obtain ⟨A0,c0,hb,hg,hr0⟩:=h
 exact Kd.R_ne ho hb ht
theorem IsS127.lt {w0 W:World} {g:Nat} {f0:List Int} {f1:Int} (h:IsS127 w0 W g f0 f1):g < W.heap.size:=by
 obtain ⟨A0,c0,hb,hg,hr0⟩:=h
 exact zq25 hb
theorem IsS127.ge {w0 W:World} {g:Nat} {f0:List Int} {f1:Int} (h:IsS127 w0 W g f0 f1):w0.heap.size≤g:=by
 obtain ⟨A0,c0,hb,hg,hr0⟩:=h
 exact hg
theorem IsS127.ne_blk {w0 W:World} {g:Nat} {f0:List Int} {f1:Int} {a:Nat} {cs:Array Value} {t:TypeId} {fr:Nat × Nat} (h:IsS127 w0 W g f0 f1) (hb2:W.heap[a]?=some (.cells cs t fr)) (ht:t≠127):g≠a:=by
 obtain ⟨A0,c0,hb,hg,hr0⟩:=h
 rintro rfl
 rw [hb] at hb2
 injection hb2 with hb2
 injection hb2 with _ ht2
 exact ht ht2.symm
theorem IsS127.far {w0 W:World} {g:Nat} {f0:List Int} {f1:Int} {p:Addr} (h:IsS127 w0 W g f0 f1) (hne:g≠p.block) (u:Value):IsS127 w0 (W.setCell p u) g f0 f1:=by
 obtain ⟨A0,c0,hb,hg,hr0⟩:=h
 exact ⟨A0,c0,zq24 hb hne u,hg,hr0⟩
theorem cellS127_0 {W:World} {g:Nat} {A0:Option Addr} {c0:Nat} {f0:List Int} {f1:Int} (h:W.heap[g]?=some (.cells #[.slice A0 f0.length c0,.int .i64 f1] 127 (0,0))):W.cell? ⟨g,0,none⟩=some (.slice A0 f0.length c0):=(zq1 h 0).trans rfl
theorem cellS127_1 {W:World} {g:Nat} {A0:Option Addr} {c0:Nat} {f0:List Int} {f1:Int} (h:W.heap[g]?=some (.cells #[.slice A0 f0.length c0,.int .i64 f1] 127 (0,0))):W.cell? ⟨g,1,none⟩=some (.int .i64 f1):=(zq1 h 1).trans rfl
theorem IsS127.set_1 {w0 W:World} {g:Nat} {f0:List Int} {f1:Int} (h:IsS127 w0 W g f0 f1) (x:Int):IsS127 w0 (W.setCell ⟨g,1,none⟩ (.int .i64 x)) g f0 x:=by
 obtain ⟨A0,c0,hb,hg,hr0⟩:=h
 exact ⟨A0,c0,by simpa using blk_set hb 1 (.int .i64 x),hg,hr0⟩
def spec_l20Open.f (l0:List Int):Option (List Int × Int):=if (l0.length:Int) > 2000 then (if 2000≤(l0.length:Int) then (some (l0.take 2000,0)) else (none)) else (some (l0,0))
set_option maxHeartbeats 8000000 in
set_option maxRecDepth 100000 in
theorem spec_l20Open.calls (A0:Option Addr) (c0:Nat) (l0:List Int) (r1:List Int) (r2:Int) (w0 w:World) (hB:Below w0.heap.size w0 w) (hr0:Kd.C (Kd.int .u8) w0 A0 l0.length l0) (hc0:l0.length≤c0) (h:spec_l20Open.f l0=some (r1,r2)) :
 Calls Tryd.prog 79 #[.slice A0 l0.length c0] w fun e w'=>∃ g_:Nat,e=.returned (.pointer (some ⟨g_,0,none⟩))∧IsS127 w0 w' g_ r1 r2∧Below w0.heap.size w0 w'∧Below w.heap.size w w':=by
 have hu127:=Tryd.underlying127
 have HR0:=zA hr0
 have HC0:=zA hc0
 clear hr0 hc0
 have HBW:=zA (Below.refl w.heap.size w)
 have HW0:=zA hB.size
 have HB:=zA hB
 clear hB
 have H:(if (l0.length:Int) > 2000 then (if 2000≤(l0.length:Int) then (some (l0.take 2000,0)) else (none)) else (some (l0,0)))=some (r1,r2):=h
 clear h
 by_cases c2:(l0.length:Int) > 2000
 ·rw [if_pos c2] at H
  have c2b0:decide (2000 < (l0.length:Int))=true:=decide_eq_true c2
  have c2b1:decide (2000 < l0.length)=true:=decide_eq_true (by omega)
  clear c2
  by_cases c3:2000≤(l0.length:Int)
  ·rw [if_pos c3] at H
   have c3b0:=eq_true c3
   have c3b1:decide (2000≤(l0.length:Int))=true:=decide_eq_true c3
   clear c3
   simp only [Option.some.injEq,Prod.mk.injEq] at H
   obtain ⟨rfl,rfl⟩:=H
   obtain ⟨i04,hi04,_,hsz4,_⟩:=info_parts info5
   obtain ⟨hcut4,hA4,hC4⟩:=print_take_of (P:=Tryd.prog) (Value.int .u8) 0 71 5 .i64 Tryd.underlying71 hi04 hsz4 A0 c0 l0 2000 (by omega) (of_decide_eq_true (by first|(with_reducible assumption)|assumption)) HC0.out
   have HR101:=zA (Kd.C_of_reads (h1:=fun _=>rfl) (hA4 _ (Kd.reads_of_C HR0.out)))
   have HC101:=zA hC4
   clear hA4 hC4 hi04 hsz4
   go_enter Tryd.func79,Tryd.ntmps79
   go_wp2_with (first|((with_reducible refine zq21 (N:=10) rfl ?_);refine zq23 ?hg (N:=10) ?hd (cs:=#[.slice A0 (l0.take 2000).length c0,.int .i64 0]) (t:=127) ?hr ?_;(case hd=>rfl);(case hg=>rfl);(case hr=>first|(go_simp;done)|(go_simp;rfl));intro gb102 hg w5 hbox hb;have n0_:=zA (zq11 HBW.out hb);have n1_:=zA (zq11 (by repeat (first|(with_reducible first|exact HB.out|apply zq4|apply zq0|apply zq3)|exact HB.out)) hb);have n2_:=zA (hbox);have n3_:=zA ((by rw [hg];exact (zq14 (by repeat (first|(with_reducible first|exact HBW.out|apply zq4|apply zq0|apply zq3)|exact HBW.out))):w.heap.size≤gb102));have n4_:=zA ((Nat.le_trans HW0.out (by rw [hg];exact (zq14 (by repeat (first|(with_reducible first|exact HBW.out|apply zq4|apply zq0|apply zq3)|exact HBW.out))):w.heap.size≤gb102):w0.heap.size≤gb102));clear HBW;clear HB;have HBW:=n0_;have HB:=n1_;have BK102:=n2_;have GW102:=n3_;have GE102:=n4_;clear n0_ n1_ n2_ n3_ n4_;clear hb hbox hg))
   go_ret
   exact ⟨_,rfl,(show IsS127 w0 _ gb102 (l0.take 2000) 0 from ⟨_,_,by (with_reducible repeat (first|refine zq6 ?_ _|refine zq8 ?_|refine zq5 ?_ _));exact BK102.out,GE102.out,HR101.out⟩),by repeat (first|(with_reducible first|exact HB.out|apply zq4|apply zq0|apply zq3|refine zq2 ?_ GE102.out)|exact HB.out),by repeat (first|(with_reducible first|exact HBW.out|apply zq4|apply zq0|apply zq3|refine zq2 ?_ GW102.out)|exact HBW.out)⟩
  ·rw [if_neg c3] at H
   exact absurd H (by simp)
 ·rw [if_neg c2] at H
  have c2b0:decide (2000 < (l0.length:Int))=false:=decide_eq_false c2
  have c2b1:decide (2000 < l0.length)=false:=decide_eq_false (by omega)
  clear c2
  simp only [Option.some.injEq,Prod.mk.injEq] at H
  obtain ⟨rfl,rfl⟩:=H
  go_enter Tryd.func79,Tryd.ntmps79
  go_wp2_with (first|((with_reducible refine zq21 (N:=10) rfl ?_);refine zq23 ?hg (N:=10) ?hd (cs:=#[.slice A0 l0.length c0,.int .i64 0]) (t:=127) ?hr ?_;(case hd=>rfl);(case hg=>rfl);(case hr=>first|(go_simp;done)|(go_simp;rfl));intro gb103 hg w6 hbox hb;have n0_:=zA (zq11 HBW.out hb);have n1_:=zA (zq11 (by repeat (first|(with_reducible first|exact HB.out|apply zq4|apply zq0|apply zq3)|exact HB.out)) hb);have n2_:=zA (hbox);have n3_:=zA ((by rw [hg];exact (zq14 (by repeat (first|(with_reducible first|exact HBW.out|apply zq4|apply zq0|apply zq3)|exact HBW.out))):w.heap.size≤gb103));have n4_:=zA ((Nat.le_trans HW0.out (by rw [hg];exact (zq14 (by repeat (first|(with_reducible first|exact HBW.out|apply zq4|apply zq0|apply zq3)|exact HBW.out))):w.heap.size≤gb103):w0.heap.size≤gb103));clear HBW;clear HB;have HBW:=n0_;have HB:=n1_;have BK103:=n2_;have GW103:=n3_;have GE103:=n4_;clear n0_ n1_ n2_ n3_ n4_;clear hb hbox hg))
  go_ret
  exact ⟨_,rfl,(show IsS127 w0 _ gb103 l0 0 from ⟨_,_,by (with_reducible repeat (first|refine zq6 ?_ _|refine zq8 ?_|refine zq5 ?_ _));exact BK103.out,GE103.out,HR0.out⟩),by repeat (first|(with_reducible first|exact HB.out|apply zq4|apply zq0|apply zq3|refine zq2 ?_ GE103.out)|exact HB.out),by repeat (first|(with_reducible first|exact HBW.out|apply zq4|apply zq0|apply zq3|refine zq2 ?_ GW103.out)|exact HBW.out)⟩
def spec_l20Rd_pick.j0:Nat→Int→Bool→List Int→Int→Option (Int × Int)
 | 0,_,_,_,_=>none
 | k+1,x1,x24,x1000,x1001=>if x24=true then (some (0,x1001)) else (if (wrap64 (x1001 - 1)) < (x1000.length:Int) then (if 0≤(wrap64 (x1001 - 1)) then (if x1=0 then (none) else (some (Int.tmod (wrap64 (rd x1000 (wrap64 (x1001 - 1)))) x1,x1001))) else (none)) else (if (x1000.length:Int)=0 then (none) else (if 0≤(Int.tmod (wrap64 (x1001 - 1)) (x1000.length:Int)) then (if (Int.tmod (wrap64 (x1001 - 1)) (x1000.length:Int)) < (x1000.length:Int) then (if 0≤(Int.tmod (wrap64 ((wrap64 ((wrap64 (x1001 - 1)) * 7))+3)) (x1000.length:Int)) then (if (Int.tmod (wrap64 ((wrap64 ((wrap64 (x1001 - 1)) * 7))+3)) (x1000.length:Int)) < (x1000.length:Int) then (if x1=0 then (none) else (some (Int.tmod (Go.bits .xor .i64 (wrap64 ((wrap64 ((wrap64 ((wrap64 ((wrap64 (rd x1000 (Int.tmod (wrap64 (x1001 - 1)) (x1000.length:Int)))) * 131))+(wrap64 ((wrap64 (rd x1000 (Int.tmod (wrap64 ((wrap64 ((wrap64 (x1001 - 1)) * 7))+3)) (x1000.length:Int)))) * 1117))))+(wrap64 ((wrap64 (x1001 - 1)) * 29))))+(wrap64 ((wrap64 (Int.tdiv (wrap64 (x1001 - 1)) (x1000.length:Int))) * 53)))) (wrap64 (Int.tdiv (wrap64 ((wrap64 ((wrap64 ((wrap64 ((wrap64 (rd x1000 (Int.tmod (wrap64 (x1001 - 1)) (x1000.length:Int)))) * 131))+(wrap64 ((wrap64 (rd x1000 (Int.tmod (wrap64 ((wrap64 ((wrap64 (x1001 - 1)) * 7))+3)) (x1000.length:Int)))) * 1117))))+(wrap64 ((wrap64 (x1001 - 1)) * 29))))+(wrap64 ((wrap64 (Int.tdiv (wrap64 (x1001 - 1)) (x1000.length:Int))) * 53)))) 64))) x1,x1001))) else (none)) else (none)) else (none)) else (none))))
def spec_l20Rd_pick.f (k:Nat) (s0_0:List Int) (s0_1:Int) (a1:Int):Option (Int × Int):=if a1 < 1 then (spec_l20Rd_pick.j0 k a1 true s0_0 (wrap64 (s0_1+1))) else (spec_l20Rd_pick.j0 k a1 ((s0_0.length:Int)==0) s0_0 (wrap64 (s0_1+1)))
set_option maxHeartbeats 8000000 in
set_option maxRecDepth 100000 in
theorem spec_l20Rd_pick.calls (k:Nat) (g:Nat) (s0_0:List Int) (s0_1:Int) (a1:Int) (r1:Int) (r2:Int) (w0 w:World) (hI:IsS127 w0 w g s0_0 s0_1) (hB:Below w0.heap.size w0 w) (h:spec_l20Rd_pick.f k s0_0 s0_1 a1=some (r1,r2)) :
 Calls Tryd.prog 113 #[.pointer (some ⟨g,0,none⟩),.int .i64 a1] w fun e w'=>e=.returned (.int .i64 r1)∧IsS127 w0 w' g s0_0 r2∧Below w0.heap.size w0 w'∧KeepBut w w' g none:=by
 have HI0:=zA hI
 have HK:=zA (KeepBut.refl w g none)
 have HL:=zA hB.size
 clear hI
 have HW0:=zA hB.size
 have HB:=zA hB
 clear hB
 have H:(if a1 < 1 then (spec_l20Rd_pick.j0 k a1 true s0_0 (wrap64 (s0_1+1))) else (spec_l20Rd_pick.j0 k a1 ((s0_0.length:Int)==0) s0_0 (wrap64 (s0_1+1))))=some (r1,r2):=h
 clear h
 have HC3:=zA H
 clear H
 obtain ⟨ASz4_0,cSz4_0,HGz4,hgz4,HSz4_0⟩:=HI0.out
 have hcz4_0:=cellS127_0 HGz4
 have hcz4_1:=cellS127_1 HGz4
 have hfz4_1:=zq7 HGz4 1
 clear HGz4 hgz4
 go_enter Tryd.func113,Tryd.ntmps113
 go_upto_region 2 with (fail)
 repeat (go_quiet (fail);go_upto_region 2 with (fail))
 go_cut [24] (fun v24 wc=>∃ (kq:Nat) (x24_2:Bool),v24=.bool x24_2∧Aside0 (spec_l20Rd_pick.j0 kq a1 x24_2 s0_0 (wrap64 (s0_1+1))=some (r1,r2))∧Aside0 (kq≤k)∧Aside0 (IsS127 w0 wc g s0_0 (wrap64 (s0_1+1)))∧Aside0 (KeepBut w wc g none)∧Aside0 (Below w0.heap.size w0 wc))
 case first =>
  have H:=HC3.out
  clear HC3
  by_cases c5:a1 < 1
  ·rw [if_pos c5] at H
   have c5b0:decide (a1 < 1)=true:=decide_eq_true c5
   clear c5
   (first|rw [c5b0]|(simp only [i64_w,i32_w];rw [c5b0])|skip)
   have H':=zA H
   clear H
   go_wp2
   repeat (go_quiet (fail);try go_wp2)
   go_meet
   case rel=>exact ⟨_,(true),(by first|rfl|(simp;done)|(simp [*];done)),H',⟨by first|omega|exact Nat.le_refl _⟩,⟨by repeat (first|(with_reducible first|exact HI0.out|apply IsS127.alloc|apply IsS127.drewN|apply IsS127.drew|apply IsS127.set_1)|exact HI0.out)⟩,⟨by repeat (first|(with_reducible first|exact HK.out|apply KeepBut.set_|apply zq9|apply zq12|apply zq10)|exact HK.out)⟩,⟨by repeat (first|(with_reducible first|exact HB.out|apply zq4|apply zq0|apply zq3|refine zq2 ?_ (IsS127.ge HI0.out))|exact HB.out)⟩⟩
  ·rw [if_neg c5] at H
   have c5b0:decide (a1 < 1)=false:=decide_eq_false c5
   clear c5
   (first|rw [c5b0]|(simp only [i64_w,i32_w];rw [c5b0])|skip)
   have H':=zA H
   clear H
   obtain ⟨ASz6_0,cSz6_0,HGz6,hgz6,HSz6_0⟩:=HI0.out
   have hcz6_0:=cellS127_0 HGz6
   have hcz6_1:=cellS127_1 HGz6
   have hfz6_1:=zq7 HGz6 1
   clear HGz6 hgz6
   go_wp2
   repeat (go_quiet (fail);try go_wp2)
   go_meet
   case rel=>exact ⟨_,(((s0_0.length:Int)==0)),(by first|rfl|(simp;done)|(simp [*];done)),H',⟨by first|omega|exact Nat.le_refl _⟩,⟨by repeat (first|(with_reducible first|exact HI0.out|apply IsS127.alloc|apply IsS127.drewN|apply IsS127.drew|apply IsS127.set_1)|exact HI0.out)⟩,⟨by repeat (first|(with_reducible first|exact HK.out|apply KeepBut.set_|apply zq9|apply zq12|apply zq10)|exact HK.out)⟩,⟨by repeat (first|(with_reducible first|exact HB.out|apply zq4|apply zq0|apply zq3|refine zq2 ?_ (IsS127.ge HI0.out))|exact HB.out)⟩⟩
 case rest =>
  clear HC3
  try clear c1
  try clear p2
  try clear c5
  try clear c5b0
  try clear p6
  try clear hcz4_0
  try clear hcz4_1
  try clear hcz6_0
  try clear hcz6_1
  try clear hfz4_1
  try clear hfz6_1
  obtain ⟨kq,x24_2,rfl,HA,HJ2,HI0,HK,HB⟩:=hcut
  cases kq with
  | zero=>exact absurd HA.out (by simp [spec_l20Rd_pick.j0])
  | succ kj2 =>
   have H:=HA.out
   clear HA
   simp only [spec_l20Rd_pick.j0] at H
   by_cases c7:x24_2=true
   ·subst c7
    have H1:(some (0,(wrap64 (s0_1+1))))=some (r1,r2):=by rw [if_pos rfl] at H;exact H
    clear H
    have H:=H1
    clear H1
    simp only [Option.some.injEq,Prod.mk.injEq] at H
    obtain ⟨rfl,rfl⟩:=H
    go_wp2
    repeat (go_quiet (fail);try go_wp2)
    go_ret
    exact ⟨by first|rfl|(simp [zq16,zq17]<;>rfl)|(simp [*,zq16,zq17]<;>rfl),by repeat (first|(with_reducible first|exact HI0.out|apply IsS127.alloc|apply IsS127.drewN|apply IsS127.drew|apply IsS127.set_1)|exact HI0.out),by repeat (first|(with_reducible first|exact HB.out|apply zq4|apply zq0|apply zq3|refine zq2 ?_ (IsS127.ge HI0.out))|exact HB.out),by repeat (first|(with_reducible first|exact HK.out|apply KeepBut.set_|apply zq9|apply zq12|apply zq10)|exact HK.out)⟩
   ·replace c7:=Bool.eq_false_iff.mpr c7
    subst c7
    have H1:(if (wrap64 ((wrap64 (s0_1+1)) - 1)) < (s0_0.length:Int) then (if 0≤(wrap64 ((wrap64 (s0_1+1)) - 1)) then (if a1=0 then (none) else (some (Int.tmod (wrap64 (rd s0_0 (wrap64 ((wrap64 (s0_1+1)) - 1)))) a1,(wrap64 (s0_1+1))))) else (none)) else (if (s0_0.length:Int)=0 then (none) else (if 0≤(Int.tmod (wrap64 ((wrap64 (s0_1+1)) - 1)) (s0_0.length:Int)) then (if (Int.tmod (wrap64 ((wrap64 (s0_1+1)) - 1)) (s0_0.length:Int)) < (s0_0.length:Int) then (if 0≤(Int.tmod (wrap64 ((wrap64 ((wrap64 ((wrap64 (s0_1+1)) - 1)) * 7))+3)) (s0_0.length:Int)) then (if (Int.tmod (wrap64 ((wrap64 ((wrap64 ((wrap64 (s0_1+1)) - 1)) * 7))+3)) (s0_0.length:Int)) < (s0_0.length:Int) then (if a1=0 then (none) else (some (Int.tmod (Go.bits .xor .i64 (wrap64 ((wrap64 ((wrap64 ((wrap64 ((wrap64 (rd s0_0 (Int.tmod (wrap64 ((wrap64 (s0_1+1)) - 1)) (s0_0.length:Int)))) * 131))+(wrap64 ((wrap64 (rd s0_0 (Int.tmod (wrap64 ((wrap64 ((wrap64 ((wrap64 (s0_1+1)) - 1)) * 7))+3)) (s0_0.length:Int)))) * 1117))))+(wrap64 ((wrap64 ((wrap64 (s0_1+1)) - 1)) * 29))))+(wrap64 ((wrap64 (Int.tdiv (wrap64 ((wrap64 (s0_1+1)) - 1)) (s0_0.length:Int))) * 53)))) (wrap64 (Int.tdiv (wrap64 ((wrap64 ((wrap64 ((wrap64 ((wrap64 (rd s0_0 (Int.tmod (wrap64 ((wrap64 (s0_1+1)) - 1)) (s0_0.length:Int)))) * 131))+(wrap64 ((wrap64 (rd s0_0 (Int.tmod (wrap64 ((wrap64 ((wrap64 ((wrap64 (s0_1+1)) - 1)) * 7))+3)) (s0_0.length:Int)))) * 1117))))+(wrap64 ((wrap64 ((wrap64 (s0_1+1)) - 1)) * 29))))+(wrap64 ((wrap64 (Int.tdiv (wrap64 ((wrap64 (s0_1+1)) - 1)) (s0_0.length:Int))) * 53)))) 64))) a1,(wrap64 (s0_1+1))))) else (none)) else (none)) else (none)) else (none))))=some (r1,r2):=by rw [if_neg (show ¬ (false=true) by decide)] at H;exact H
    clear H
    have H:=H1
    clear H1
    by_cases c8:(wrap64 ((wrap64 (s0_1+1)) - 1)) < (s0_0.length:Int)
    ·rw [if_pos c8] at H
     have c8b0:decide ((wrap64 ((wrap64 (s0_1+1)) - 1)) < (s0_0.length:Int))=true:=decide_eq_true c8
     clear c8
     obtain ⟨ji9,hji9⟩:∃ j_:Int,(wrap64 ((wrap64 (s0_1+1)) - 1))=j_:=⟨_,rfl⟩
     replace H:(if 0≤(ji9) then (if a1=0 then (none) else (some (Int.tmod (wrap64 (rd s0_0 (ji9))) a1,(wrap64 (s0_1+1))))) else (none))=some (r1,r2):=by first|(rw [hji9] at H;exact H)|(simp only [hji9] at H ⊢;exact H)
     (try rw [hji9] at c8b0)
     have hji9w:(IntKind.i64.wrap ((wrap64 (s0_1+1)) - 1))=ji9:=(i64_w _).trans hji9
     by_cases c10:0≤(ji9)
     ·rw [if_pos c10] at H
      have c10b0:decide (0≤(ji9))=true:=decide_eq_true c10
      clear c10
      by_cases c11:a1=0
      ·rw [if_pos c11] at H
       exact absurd H (by simp)
      ·rw [if_neg c11] at H
       have c11b0:(a1==0)=false:=beq_eq_false_iff_ne.mpr c11
       have c11b1:(a1 != 0)=true:=bne_iff_ne.mpr c11
       simp only [Option.some.injEq,Prod.mk.injEq] at H
       obtain ⟨rfl,rfl⟩:=H
       obtain ⟨ASz12_0,cSz12_0,HGz12,hgz12,HSz12_0⟩:=HI0.out
       have hcz12_0:=cellS127_0 HGz12
       have hcz12_1:=cellS127_1 HGz12
       have hfz12_1:=zq7 HGz12 1
       clear HGz12 hgz12
       have p101:0≤((ji9):Int):=of_decide_eq_true (by first|(with_reducible assumption)|assumption)
       have q101:(ji9) < (s0_0.length:Int):=of_decide_eq_true (by first|(with_reducible assumption)|assumption)
       obtain ⟨ad101,e101,hx101_0⟩:=Kd.at_int HSz12_0 (ji9) p101 q101
       cases e101
       replace hx101_0:=pw_cell_below HB.out hx101_0
       replace p101:=eq_true p101
       replace q101:=eq_true q101
       go_wp2
       repeat (go_quiet (fail);try go_wp2)
       go_ret
       exact ⟨by first|rfl|(simp [zq16,zq17]<;>rfl)|(simp only [← hji9];first|rfl|(simp [zq16,zq17]<;>rfl))|(simp [*,zq16,zq17]<;>rfl),by repeat (first|(with_reducible first|exact HI0.out|apply IsS127.alloc|apply IsS127.drewN|apply IsS127.drew|apply IsS127.set_1)|exact HI0.out),by repeat (first|(with_reducible first|exact HB.out|apply zq4|apply zq0|apply zq3|refine zq2 ?_ (IsS127.ge HI0.out))|exact HB.out),by repeat (first|(with_reducible first|exact HK.out|apply KeepBut.set_|apply zq9|apply zq12|apply zq10)|exact HK.out)⟩
     ·rw [if_neg c10] at H
      exact absurd H (by simp)
    ·rw [if_neg c8] at H
     have c8b0:decide ((wrap64 ((wrap64 (s0_1+1)) - 1)) < (s0_0.length:Int))=false:=decide_eq_false c8
     clear c8
     by_cases c13:(s0_0.length:Int)=0
     ·rw [if_pos c13] at H
      exact absurd H (by simp)
     ·rw [if_neg c13] at H
      have c13b0:((s0_0.length:Int)==0)=false:=beq_eq_false_iff_ne.mpr c13
      have c13b1:((s0_0.length:Int) != 0)=true:=bne_iff_ne.mpr c13
      have c13b2:¬ (s0_0=[]):=fun h_=>c13 (by rw [h_];rfl)
      obtain ⟨ji14,hji14⟩:∃ j_:Int,(Int.tmod (wrap64 ((wrap64 (s0_1+1)) - 1)) (s0_0.length:Int))=j_:=⟨_,rfl⟩
      replace H:(if 0≤(ji14) then (if (ji14) < (s0_0.length:Int) then (if 0≤(Int.tmod (wrap64 ((wrap64 ((wrap64 ((wrap64 (s0_1+1)) - 1)) * 7))+3)) (s0_0.length:Int)) then (if (Int.tmod (wrap64 ((wrap64 ((wrap64 ((wrap64 (s0_1+1)) - 1)) * 7))+3)) (s0_0.length:Int)) < (s0_0.length:Int) then (if a1=0 then (none) else (some (Int.tmod (Go.bits .xor .i64 (wrap64 ((wrap64 ((wrap64 ((wrap64 ((wrap64 (rd s0_0 (ji14))) * 131))+(wrap64 ((wrap64 (rd s0_0 (Int.tmod (wrap64 ((wrap64 ((wrap64 ((wrap64 (s0_1+1)) - 1)) * 7))+3)) (s0_0.length:Int)))) * 1117))))+(wrap64 ((wrap64 ((wrap64 (s0_1+1)) - 1)) * 29))))+(wrap64 ((wrap64 (Int.tdiv (wrap64 ((wrap64 (s0_1+1)) - 1)) (s0_0.length:Int))) * 53)))) (wrap64 (Int.tdiv (wrap64 ((wrap64 ((wrap64 ((wrap64 ((wrap64 (rd s0_0 (ji14))) * 131))+(wrap64 ((wrap64 (rd s0_0 (Int.tmod (wrap64 ((wrap64 ((wrap64 ((wrap64 (s0_1+1)) - 1)) * 7))+3)) (s0_0.length:Int)))) * 1117))))+(wrap64 ((wrap64 ((wrap64 (s0_1+1)) - 1)) * 29))))+(wrap64 ((wrap64 (Int.tdiv (wrap64 ((wrap64 (s0_1+1)) - 1)) (s0_0.length:Int))) * 53)))) 64))) a1,(wrap64 (s0_1+1))))) else (none)) else (none)) else (none)) else (none))=some (r1,r2):=by first|(rw [hji14] at H;exact H)|(simp only [hji14] at H ⊢;exact H)
      by_cases c15:0≤(ji14)
      ·rw [if_pos c15] at H
       have c15b0:decide (0≤(ji14))=true:=decide_eq_true c15
       clear c15
       by_cases c16:(ji14) < (s0_0.length:Int)
       ·rw [if_pos c16] at H
        have c16b0:decide ((ji14) < (s0_0.length:Int))=true:=decide_eq_true c16
        clear c16
        obtain ⟨ji17,hji17⟩:∃ j_:Int,(Int.tmod (wrap64 ((wrap64 ((wrap64 ((wrap64 (s0_1+1)) - 1)) * 7))+3)) (s0_0.length:Int))=j_:=⟨_,rfl⟩
        replace H:(if 0≤(ji17) then (if (ji17) < (s0_0.length:Int) then (if a1=0 then (none) else (some (Int.tmod (Go.bits .xor .i64 (wrap64 ((wrap64 ((wrap64 ((wrap64 ((wrap64 (rd s0_0 (ji14))) * 131))+(wrap64 ((wrap64 (rd s0_0 (ji17))) * 1117))))+(wrap64 ((wrap64 ((wrap64 (s0_1+1)) - 1)) * 29))))+(wrap64 ((wrap64 (Int.tdiv (wrap64 ((wrap64 (s0_1+1)) - 1)) (s0_0.length:Int))) * 53)))) (wrap64 (Int.tdiv (wrap64 ((wrap64 ((wrap64 ((wrap64 ((wrap64 (rd s0_0 (ji14))) * 131))+(wrap64 ((wrap64 (rd s0_0 (ji17))) * 1117))))+(wrap64 ((wrap64 ((wrap64 (s0_1+1)) - 1)) * 29))))+(wrap64 ((wrap64 (Int.tdiv (wrap64 ((wrap64 (s0_1+1)) - 1)) (s0_0.length:Int))) * 53)))) 64))) a1,(wrap64 (s0_1+1))))) else (none)) else (none))=some (r1,r2):=by first|(rw [hji17] at H;exact H)|(simp only [hji17] at H ⊢;exact H)
        by_cases c18:0≤(ji17)
        ·rw [if_pos c18] at H
         have c18b0:decide (0≤(ji17))=true:=decide_eq_true c18
         clear c18
         by_cases c19:(ji17) < (s0_0.length:Int)
         ·rw [if_pos c19] at H
          have c19b0:decide ((ji17) < (s0_0.length:Int))=true:=decide_eq_true c19
          clear c19
          by_cases c20:a1=0
          ·rw [if_pos c20] at H
           exact absurd H (by simp)
          ·rw [if_neg c20] at H
           have c20b0:(a1==0)=false:=beq_eq_false_iff_ne.mpr c20
           have c20b1:(a1 != 0)=true:=bne_iff_ne.mpr c20
           simp only [Option.some.injEq,Prod.mk.injEq] at H
           obtain ⟨rfl,rfl⟩:=H
           obtain ⟨ASz21_0,cSz21_0,HGz21,hgz21,HSz21_0⟩:=HI0.out
           have hcz21_0:=cellS127_0 HGz21
           have hcz21_1:=cellS127_1 HGz21
           have hfz21_1:=zq7 HGz21 1
           clear HGz21 hgz21
           have p102:0≤((ji14):Int):=of_decide_eq_true (by first|(with_reducible assumption)|assumption)
           have q102:(ji14) < (s0_0.length:Int):=of_decide_eq_true (by first|(with_reducible assumption)|assumption)
           obtain ⟨ad102,e102,hx102_0⟩:=Kd.at_int HSz21_0 (ji14) p102 q102
           cases e102
           replace hx102_0:=pw_cell_below HB.out hx102_0
           replace p102:=eq_true p102
           replace q102:=eq_true q102
           have p103:0≤((ji17):Int):=of_decide_eq_true (by first|(with_reducible assumption)|assumption)
           have q103:(ji17) < (s0_0.length:Int):=of_decide_eq_true (by first|(with_reducible assumption)|assumption)
           obtain ⟨ad103,e103,hx103_0⟩:=Kd.at_int HSz21_0 (ji17) p103 q103
           obtain rfl:ad102=ad103:=(by injection e103)
           replace hx103_0:=pw_cell_below HB.out hx103_0
           replace p103:=eq_true p103
           replace q103:=eq_true q103
           go_wp2
           repeat (go_quiet (fail);try go_wp2)
           go_ret
           exact ⟨by first|rfl|(simp [zq16,zq17]<;>rfl)|(simp only [← hji14,← hji17];first|rfl|(simp [zq16,zq17]<;>rfl))|(simp [*,zq16,zq17]<;>rfl),by repeat (first|(with_reducible first|exact HI0.out|apply IsS127.alloc|apply IsS127.drewN|apply IsS127.drew|apply IsS127.set_1)|exact HI0.out),by repeat (first|(with_reducible first|exact HB.out|apply zq4|apply zq0|apply zq3|refine zq2 ?_ (IsS127.ge HI0.out))|exact HB.out),by repeat (first|(with_reducible first|exact HK.out|apply KeepBut.set_|apply zq9|apply zq12|apply zq10)|exact HK.out)⟩
         ·rw [if_neg c19] at H
          exact absurd H (by simp)
        ·rw [if_neg c18] at H
         exact absurd H (by simp)
       ·rw [if_neg c16] at H
        exact absurd H (by simp)
      ·rw [if_neg c15] at H
       exact absurd H (by simp)
def spec_l20Rd_of.f (k:Nat) (s0_0:List Int) (s0_1:Int) (l1:List ByteArray):Option (ByteArray × Int):=(spec_l20Rd_pick.f k s0_0 s0_1 (l1.length:Int)).bind fun bt104=>(if 0≤bt104.1 then (if bt104.1 < (l1.length:Int) then (some (rdOf ByteArray.empty l1 bt104.1,bt104.2)) else (none)) else (none))
set_option maxHeartbeats 8000000 in
set_option maxRecDepth 100000 in
theorem spec_l20Rd_of.calls (k:Nat) (g:Nat) (s0_0:List Int) (s0_1:Int) (A1:Option Addr) (c1:Nat) (l1:List ByteArray) (r1:ByteArray) (r2:Int) (w0 w:World) (hI:IsS127 w0 w g s0_0 s0_1) (hB:Below w0.heap.size w0 w) (hr1:Kd.C Kd.string w A1 l1.length l1) (hc1:l1.length≤c1) (hf1:∀ ad,A1=some ad→0 < l1.length→ad.block≠g) (h:spec_l20Rd_of.f k s0_0 s0_1 l1=some (r1,r2)) :
 Calls Tryd.prog 114 #[.pointer (some ⟨g,0,none⟩),.slice A1 l1.length c1] w fun e w'=>e=.returned (.string r1)∧IsS127 w0 w' g s0_0 r2∧Below w0.heap.size w0 w'∧KeepBut w w' g none:=by
 have HR1:=zA hr1
 have HC1:=zA hc1
 clear hr1 hc1
 have HI0:=zA hI
 have HK:=zA (KeepBut.refl w g none)
 have HL:=zA hB.size
 clear hI
 have HW0:=zA hB.size
 have HB:=zA hB
 clear hB
 have H:((spec_l20Rd_pick.f k s0_0 s0_1 (l1.length:Int)).bind fun bt104=>(if 0≤bt104.1 then (if bt104.1 < (l1.length:Int) then (some (rdOf ByteArray.empty l1 bt104.1,bt104.2)) else (none)) else (none)))=some (r1,r2):=h
 clear h
 replace H:=Option.bind_eq_some_iff.mp H
 obtain ⟨⟨t104,t105⟩,A30,H⟩:=H
 replace H:(if 0≤t104 then (if t104 < (l1.length:Int) then (some (rdOf ByteArray.empty l1 t104,t105)) else (none)) else (none))=some (r1,r2):=H
 have A3:=zA A30
 clear A30
 by_cases c4:0≤t104
 ·rw [if_pos c4] at H
  have c4b0:decide (0≤t104)=true:=decide_eq_true c4
  clear c4
  by_cases c5:t104 < (l1.length:Int)
  ·rw [if_pos c5] at H
   have c5b0:decide (t104 < (l1.length:Int))=true:=decide_eq_true c5
   clear c5
   simp only [Option.some.injEq,Prod.mk.injEq] at H
   obtain ⟨rfl,rfl⟩:=H
   go_enter Tryd.func114,Tryd.ntmps114
   go_wp2_with (first|((with_reducible refine zq19 (f:=113) rfl ?_);refine goesL_ (some 9) rfl rfl Tryd.func113 (by kernel_rfl) rfl #[.pointer (some ⟨g,0,none⟩),.int .i64 (l1.length:Int)] rfl (by (try simp only [zL3,zL4,zL5]);first|done|rfl|(simp only [zL6,zL7];rfl)) ?_;(with_reducible refine (spec_l20Rd_pick.calls k g s0_0 s0_1 (l1.length:Int) t104 t105 w0 _ ?side1 ?side2 A3.out).mono ?_);(case side1=>repeat (first|(with_reducible first|exact HI0.out|apply IsS127.alloc|apply IsS127.drewN|apply IsS127.drew|apply IsS127.set_1)|exact HI0.out));(case side2=>repeat (first|(with_reducible first|exact HB.out|apply zq4|apply zq0|apply zq3|refine zq2 ?_ (IsS127.ge HI0.out))|exact HB.out));rintro e w6 ⟨rfl,hi,hb,hk⟩;refine ⟨_,rfl,?_⟩;have n0_:=zA (KeepBut.trans (by repeat (first|(with_reducible first|exact HK.out|apply KeepBut.set_|apply zq9|apply zq12|apply zq10)|exact HK.out)) hk (.inl rfl));have n1_:=zA (hb);have n2_:=zA (hi);clear HK;clear HB;clear HI0;have HK:=n0_;have HB:=n1_;have HI0:=n2_;clear n0_ n1_ n2_;(try clear hb);(try clear hk);(try clear hi);have p106:0≤(t104:Int):=of_decide_eq_true (by first|(with_reducible assumption)|assumption);have q106:t104 < (l1.length:Int):=of_decide_eq_true (by first|(with_reducible assumption)|assumption);obtain ⟨ad106,e106,hx106_0⟩:=Kd.at_string HR1.out t104 p106 q106;cases e106;replace hx106_0:=keep_cell HK.out hx106_0 (by first|(rw [add_block];exact hf1 _ rfl (by omega))|exact hf1 _ rfl (by omega)|exact hf1 ad106 rfl (by omega));replace p106:=eq_true p106;replace q106:=eq_true q106))
   go_ret
   exact ⟨by first|rfl|(simp [zq16,zq17]<;>rfl)|(simp [*,zq16,zq17]<;>rfl),by repeat (first|(with_reducible first|exact HI0.out|apply IsS127.alloc|apply IsS127.drewN|apply IsS127.drew|apply IsS127.set_1)|exact HI0.out),by repeat (first|(with_reducible first|exact HB.out|apply zq4|apply zq0|apply zq3|refine zq2 ?_ (IsS127.ge HI0.out))|exact HB.out),by repeat (first|(with_reducible first|exact HK.out|apply KeepBut.set_|apply zq9|apply zq12|apply zq10)|exact HK.out)⟩
  ·rw [if_neg c5] at H
   exact absurd H (by simp)
 ·rw [if_neg c4] at H
  exact absurd H (by simp)
def spec_l20Domain.f (k:Nat) (s0_0:List Int) (s0_1:Int):Option (ByteArray × Int):=(spec_l20Rd_of.f k s0_0 s0_1 (([(⟨#[111,110,101,46,111,114,103]⟩:ByteArray),(⟨#[116,119,111,46,111,114,103]⟩:ByteArray),(⟨#[104,117,98,46,110,101,116]⟩:ByteArray),(⟨#[120,46,99,111,109]⟩:ByteArray),(⟨#[102,97,114,46,99,111,109]⟩:ByteArray),(⟨#[111,116,104,101,114,46,99,111,109]⟩:ByteArray),(⟨#[97,46,111,110,101,46,111,114,103]⟩:ByteArray)]:List ByteArray))).bind fun bt104=>(some (bt104.1,bt104.2))
set_option maxHeartbeats 8000000 in
set_option maxRecDepth 100000 in
theorem spec_l20Domain.calls (k:Nat) (g:Nat) (s0_0:List Int) (s0_1:Int) (r1:ByteArray) (r2:Int) (w0 w:World) (hI:IsS127 w0 w g s0_0 s0_1) (hB:Below w0.heap.size w0 w) (h:spec_l20Domain.f k s0_0 s0_1=some (r1,r2)) :
 Calls Tryd.prog 137 #[.pointer (some ⟨g,0,none⟩)] w fun e w'=>e=.returned (.string r1)∧IsS127 w0 w' g s0_0 r2∧Below w0.heap.size w0 w'∧KeepBut w w' g none:=by
 have HI0:=zA hI
 have HK:=zA (KeepBut.refl w g none)
 have HL:=zA hB.size
 clear hI
 have HW0:=zA hB.size
 have HB:=zA hB
 clear hB
 have H:((spec_l20Rd_of.f k s0_0 s0_1 (([bz13,bz14,bz15,bz16,bz17,bz18,bz19]:List ByteArray))).bind fun bt104=>(some (bt104.1,bt104.2)))=some (r1,r2):=h
 clear h
 obtain ⟨y101,hy101⟩:∃ y_:List ByteArray,y_=(([bz13,bz14,bz15,bz16,bz17,bz18,bz19]:List ByteArray)):=⟨_,rfl⟩
 replace H:((spec_l20Rd_of.f k s0_0 s0_1 y101).bind fun bt104=>(some (bt104.1,bt104.2)))=some (r1,r2):=by first|(rw [hy101];with_reducible exact H)|(have H2_:=(Option.bind_some _ _).symm.trans H;rw [hy101];with_reducible exact H2_)|(have H2_:=(Option.bind_some _ _).symm.trans H;with_reducible exact H2_)|with_reducible exact H|(rw [hy101];exact H)|exact H
 have Ny101:=zA hy101
 clear hy101
 replace H:=Option.bind_eq_some_iff.mp H
 obtain ⟨⟨t104,t105⟩,A20,H⟩:=H
 replace H:(some (t104,t105))=some (r1,r2):=H
 have A2:=zA A20
 clear A20
 simp only [Option.some.injEq,Prod.mk.injEq] at H
 obtain ⟨rfl,rfl⟩:=H
 go_enter Tryd.func137,Tryd.ntmps137
 go_wp2_with (first|((with_reducible refine zq21 (N:=4) rfl ?_);refine Kd.R_lit Kd.string _ 9 ?hg (N:=4) ?hd (xs:=([bz13,bz14,bz15,bz16,bz17,bz18,bz19]:List ByteArray)) (inner:=[.string bz13,.string bz14,.string bz15,.string bz16,.string bz17,.string bz18,.string bz19]) (ok:=fun _=>True) (okp:=fun _=>True) ?hr ?hp (fun _ hk=>hk) trivial (Below.refl _ _) (Nat.le_refl _) (by simp) ?_;(case hd=>rfl);(case hg=>rfl);(case hr=>first|(go_simp;done)|(go_simp;rfl));(case hp=>exact (Reps.one (show Kd.M Kd.string _ _ _ bz13 [.string bz13] from rfl) (Reps.one (show Kd.M Kd.string _ _ _ bz14 [.string bz14] from rfl) (Reps.one (show Kd.M Kd.string _ _ _ bz15 [.string bz15] from rfl) (Reps.one (show Kd.M Kd.string _ _ _ bz16 [.string bz16] from rfl) (Reps.one (show Kd.M Kd.string _ _ _ bz17 [.string bz17] from rfl) (Reps.one (show Kd.M Kd.string _ _ _ bz18 [.string bz18] from rfl) (Reps.one (show Kd.M Kd.string _ _ _ bz19 [.string bz19] from rfl) (Reps.none _ _)))))))));intro v102 w3 ho4 hb hg_ hnew_;clear hg_ hnew_;(first|rw [← Ny101.out] at ho4|(simp only [Int.reduceToNat] at ho4;rw [← Ny101.out] at ho4));have n0_:=zA (Kd.z10 ho4 (zq22 (w:=w) (g:=g) (row:=none) (by repeat (first|(with_reducible first|exact HK.out|apply KeepBut.set_|apply zq9|apply zq12|apply zq10)|exact HK.out))));have n1_:=zA (IsS127.below (by repeat (first|(with_reducible first|exact HI0.out|apply IsS127.alloc|apply IsS127.drewN|apply IsS127.drew|apply IsS127.set_1)|exact HI0.out)) hb);have n2_:=zA (KeepBut.trans (by repeat (first|(with_reducible first|exact HK.out|apply KeepBut.set_|apply zq9|apply zq12|apply zq10)|exact HK.out)) (KeepBut.of_below hb g none) (.inl rfl));have n3_:=zA (zq11 (by repeat (first|(with_reducible first|exact HB.out|apply zq4|apply zq0|apply zq3|refine zq2 ?_ (IsS127.ge HI0.out))|exact HB.out)) hb);clear HI0;clear HK;clear HB;have HO103:=n0_;have HI0:=n1_;have HK:=n2_;have HB:=n3_;clear n0_ n1_ n2_ n3_;clear hb ho4;obtain ⟨Ao5,co5,eo5⟩:=Kd.z13 HO103.out;subst eo5)|((with_reducible refine zq19 (f:=114) rfl ?_);refine goesL_ (some 5) rfl rfl Tryd.func114 (by kernel_rfl) rfl #[.pointer (some ⟨g,0,none⟩),.slice Ao5 y101.length co5] rfl (by (try simp only [zL3,zL4,zL5]);first|done|rfl|(simp only [zL6,zL7];rfl)) ?_;(with_reducible refine (spec_l20Rd_of.calls k g s0_0 s0_1 _ _ y101 t104 t105 w0 _ ?side1 ?side2 ?side3 ?side4 ?side5 A2.out).mono ?_);(case side1=>repeat (first|(with_reducible first|exact HI0.out|apply IsS127.alloc|apply IsS127.drewN|apply IsS127.drew|apply IsS127.set_1)|exact HI0.out));(case side2=>repeat (first|(with_reducible first|exact HB.out|apply zq4|apply zq0|apply zq3|refine zq2 ?_ (IsS127.ge HI0.out))|exact HB.out));(case side3=>repeat (first|exact (Kd.z12 HO103.out).2.2|(with_reducible refine Kd.z0 ?_ _)|(with_reducible refine Kd.z3 ?_ _)|(with_reducible refine Kd.z2 ?_)));(case side4=>exact (Kd.z12 HO103.out).2.1);(case side5=>exact far_slice (IsS127.own_ne HI0.out HO103.out (by decide)));rintro e w6 ⟨rfl,hi,hb,hk⟩;refine ⟨_,rfl,?_⟩;have n0_:=zA (Kd.z11 (Kd.z9 (IsS127.apart (show IsS127 w0 _ g s0_0 s0_1 from by repeat (first|(with_reducible first|exact HI0.out|apply IsS127.alloc|apply IsS127.drewN|apply IsS127.drew|apply IsS127.set_1)|exact HI0.out)) (by (with_reducible repeat (first|apply Kd.z4|apply Kd.z7|apply Kd.z6));exact HO103.out) (by decide)) hk (fun _ h=>h.2)) (fun _ h=>h.1));have n1_:=zA (KeepBut.trans (by repeat (first|(with_reducible first|exact HK.out|apply KeepBut.set_|apply zq9|apply zq12|apply zq10)|exact HK.out)) hk (.inl rfl));have n2_:=zA (hb);have n3_:=zA (hi);clear HO103;clear HK;clear HB;clear HI0;have HO103:=n0_;have HK:=n1_;have HB:=n2_;have HI0:=n3_;clear n0_ n1_ n2_ n3_;(try clear hb);(try clear hk);(try clear hi)))
 go_ret
 exact ⟨by first|rfl|(simp [zq16,zq17]<;>rfl)|(simp [*,zq16,zq17]<;>rfl),by repeat (first|(with_reducible first|exact HI0.out|apply IsS127.alloc|apply IsS127.drewN|apply IsS127.drew|apply IsS127.set_1)|exact HI0.out),by repeat (first|(with_reducible first|exact HB.out|apply zq4|apply zq0|apply zq3|refine zq2 ?_ (IsS127.ge HI0.out))|exact HB.out),by repeat (first|(with_reducible first|exact HK.out|apply KeepBut.set_|apply zq9|apply zq12|apply zq10)|exact HK.out)⟩
def spec_l20Addr.f (k:Nat) (s0_0:List Int) (s0_1:Int):Option (ByteArray × ByteArray × Int):=(spec_l20Rd_of.f k s0_0 s0_1 (([(⟨#[97]⟩:ByteArray),(⟨#[98]⟩:ByteArray),(⟨#[97,110,110]⟩:ByteArray),(⟨#[98,111,98,55]⟩:ByteArray)]:List ByteArray))).bind fun bt110=>((spec_l20Domain.f k s0_0 bt110.2).bind fun bt112=>(some (bt110.1,bt112.1,bt112.2)))
set_option maxHeartbeats 8000000 in
set_option maxRecDepth 100000 in
theorem spec_l20Addr.calls (k:Nat) (g:Nat) (s0_0:List Int) (s0_1:Int) (r1:ByteArray) (r2:ByteArray) (r3:Int) (w0 w:World) (hI:IsS127 w0 w g s0_0 s0_1) (hB:Below w0.heap.size w0 w) (h:spec_l20Addr.f k s0_0 s0_1=some (r1,r2,r3)) :
 Calls Tryd.prog 112 #[.pointer (some ⟨g,0,none⟩)] w fun e w'=>e=.returned (.agg #[.string r1,.string r2])∧IsS127 w0 w' g s0_0 r3∧Below w0.heap.size w0 w'∧KeepBut w w' g none:=by
 have hu30:=Tryd.underlying30
 have HI0:=zA hI
 have HK:=zA (KeepBut.refl w g none)
 have HL:=zA hB.size
 clear hI
 have HW0:=zA hB.size
 have HB:=zA hB
 clear hB
 have H:((spec_l20Rd_of.f k s0_0 s0_1 (([bz20,bz21,bz22,bz23]:List ByteArray))).bind fun bt110=>((spec_l20Domain.f k s0_0 bt110.2).bind fun bt112=>(some (bt110.1,bt112.1,bt112.2))))=some (r1,r2,r3):=h
 clear h
 obtain ⟨y107,hy107⟩:∃ y_:List ByteArray,y_=(([bz20,bz21,bz22,bz23]:List ByteArray)):=⟨_,rfl⟩
 replace H:((spec_l20Rd_of.f k s0_0 s0_1 y107).bind fun bt110=>((spec_l20Domain.f k s0_0 bt110.2).bind fun bt112=>(some (bt110.1,bt112.1,bt112.2))))=some (r1,r2,r3):=by first|(rw [hy107];with_reducible exact H)|(have H2_:=(Option.bind_some _ _).symm.trans H;rw [hy107];with_reducible exact H2_)|(have H2_:=(Option.bind_some _ _).symm.trans H;with_reducible exact H2_)|with_reducible exact H|(rw [hy107];exact H)|exact H
 have Ny107:=zA hy107
 clear hy107
 replace H:=Option.bind_eq_some_iff.mp H
 obtain ⟨⟨t110,t111⟩,A20,H⟩:=H
 replace H:((spec_l20Domain.f k s0_0 t111).bind fun bt112=>(some (t110,bt112.1,bt112.2)))=some (r1,r2,r3):=H
 have A2:=zA A20
 clear A20
 replace H:=Option.bind_eq_some_iff.mp H
 obtain ⟨⟨t112,t113⟩,A30,H⟩:=H
 replace H:(some (t110,t112,t113))=some (r1,r2,r3):=H
 have A3:=zA A30
 clear A30
 simp only [Option.some.injEq,Prod.mk.injEq] at H
 obtain ⟨rfl,rfl,rfl⟩:=H
 go_enter Tryd.func112,Tryd.ntmps112
 go_wp2_with (first|((with_reducible refine zq21 (N:=2) rfl ?_);refine zq23 ?hg (N:=2) ?hd (cs:=#[.string bz0,.string bz0]) (t:=30) ?hr ?_;(case hd=>rfl);(case hg=>rfl);(case hr=>first|(go_simp;done)|(go_simp;rfl));intro gb106 hg w4 hbox hb;have n0_:=zA (IsS127.below (by repeat (first|(with_reducible first|exact HI0.out|apply IsS127.alloc|apply IsS127.drewN|apply IsS127.drew|apply IsS127.set_1)|exact HI0.out)) hb);have n1_:=zA (KeepBut.trans (by repeat (first|(with_reducible first|exact HK.out|apply KeepBut.set_|apply zq9|apply zq12|apply zq10)|exact HK.out)) (KeepBut.of_below hb g none) (.inl rfl));have n2_:=zA (zq11 (by repeat (first|(with_reducible first|exact HB.out|apply zq4|apply zq0|apply zq3|refine zq2 ?_ (IsS127.ge HI0.out))|exact HB.out)) hb);have n3_:=zA (hbox);have n4_:=zA ((by rw [hg];exact (zq22 (w:=w) (g:=g) (row:=none) (by repeat (first|(with_reducible first|exact HK.out|apply KeepBut.set_|apply zq9|apply zq12|apply zq10)|exact HK.out))):w.heap.size≤gb106));have n5_:=zA ((Nat.le_trans HW0.out (by rw [hg];exact (zq22 (w:=w) (g:=g) (row:=none) (by repeat (first|(with_reducible first|exact HK.out|apply KeepBut.set_|apply zq9|apply zq12|apply zq10)|exact HK.out))):w.heap.size≤gb106):w0.heap.size≤gb106));have n6_:=zA ((by rw [hg];exact Nat.ne_of_lt (IsS127.lt (show IsS127 w0 _ g s0_0 s0_1 from by repeat (first|(with_reducible first|exact HI0.out|apply IsS127.alloc|apply IsS127.drewN|apply IsS127.drew|apply IsS127.set_1)|exact HI0.out))):g≠gb106));have n7_:=zA ((by rw [hg];exact Nat.ne_of_gt (IsS127.lt (show IsS127 w0 _ g s0_0 s0_1 from by repeat (first|(with_reducible first|exact HI0.out|apply IsS127.alloc|apply IsS127.drewN|apply IsS127.drew|apply IsS127.set_1)|exact HI0.out))):gb106≠g));clear HI0;clear HK;clear HB;have HI0:=n0_;have HK:=n1_;have HB:=n2_;have BK106:=n3_;have GW106:=n4_;have GE106:=n5_;have NB0_106:=n6_;have NB106_0:=n7_;clear n0_ n1_ n2_ n3_ n4_ n5_ n6_ n7_;clear hb hbox hg)|((with_reducible refine zq21 (N:=4) rfl ?_);refine Kd.R_lit Kd.string _ 9 ?hg (N:=4) ?hd (xs:=([bz20,bz21,bz22,bz23]:List ByteArray)) (inner:=[.string bz20,.string bz21,.string bz22,.string bz23]) (ok:=fun _=>True) (okp:=fun _=>True) ?hr ?hp (fun _ hk=>hk) trivial (Below.refl _ _) (Nat.le_refl _) (by simp) ?_;(case hd=>rfl);(case hg=>rfl);(case hr=>first|(go_simp;done)|(go_simp;rfl));(case hp=>exact (Reps.one (show Kd.M Kd.string _ _ _ bz20 [.string bz20] from rfl) (Reps.one (show Kd.M Kd.string _ _ _ bz21 [.string bz21] from rfl) (Reps.one (show Kd.M Kd.string _ _ _ bz22 [.string bz22] from rfl) (Reps.one (show Kd.M Kd.string _ _ _ bz23 [.string bz23] from rfl) (Reps.none _ _))))));intro v108 w5 ho6 hb hg_ hnew_;clear hg_ hnew_;(first|rw [← Ny107.out] at ho6|(simp only [Int.reduceToNat] at ho6;rw [← Ny107.out] at ho6));have n0_:=zA (Kd.z10 ho6 (zq22 (w:=w) (g:=g) (row:=none) (by repeat (first|(with_reducible first|exact HK.out|apply KeepBut.set_|apply zq9|apply zq12|apply zq10|refine zq15 ?_ GW106.out _)|exact HK.out))));have n1_:=zA (IsS127.below (by repeat (first|(with_reducible first|exact HI0.out|apply IsS127.alloc|apply IsS127.drewN|apply IsS127.drew|apply IsS127.set_1|refine IsS127.far ?_ NB0_106.out _)|exact HI0.out)) hb);have n2_:=zA (zq13 (by (with_reducible repeat (first|refine zq6 ?_ _|refine zq8 ?_|refine zq5 ?_ _));exact BK106.out) hb);have n3_:=zA (KeepBut.trans (by repeat (first|(with_reducible first|exact HK.out|apply KeepBut.set_|apply zq9|apply zq12|apply zq10|refine zq15 ?_ GW106.out _)|exact HK.out)) (KeepBut.of_below hb g none) (.inl rfl));have n4_:=zA (zq11 (by repeat (first|(with_reducible first|exact HB.out|apply zq4|apply zq0|apply zq3|refine zq2 ?_ (IsS127.ge HI0.out)|refine zq2 ?_ GE106.out)|exact HB.out)) hb);clear HI0;clear BK106;clear HK;clear HB;have HO109:=n0_;have HI0:=n1_;have BK106:=n2_;have HK:=n3_;have HB:=n4_;clear n0_ n1_ n2_ n3_ n4_;clear hb ho6;obtain ⟨Ao7,co7,eo7⟩:=Kd.z13 HO109.out;subst eo7)|((with_reducible refine zq19 (f:=114) rfl ?_);refine goesL_ (some 5) rfl rfl Tryd.func114 (by kernel_rfl) rfl #[.pointer (some ⟨g,0,none⟩),.slice Ao7 y107.length co7] rfl (by (try simp only [zL3,zL4,zL5]);first|done|rfl|(simp only [zL6,zL7];rfl)) ?_;(with_reducible refine (spec_l20Rd_of.calls k g s0_0 s0_1 _ _ y107 t110 t111 w0 _ ?side1 ?side2 ?side3 ?side4 ?side5 A2.out).mono ?_);(case side1=>repeat (first|(with_reducible first|exact HI0.out|apply IsS127.alloc|apply IsS127.drewN|apply IsS127.drew|apply IsS127.set_1|refine IsS127.far ?_ NB0_106.out _)|exact HI0.out));(case side2=>repeat (first|(with_reducible first|exact HB.out|apply zq4|apply zq0|apply zq3|refine zq2 ?_ (IsS127.ge HI0.out)|refine zq2 ?_ GE106.out)|exact HB.out));(case side3=>repeat (first|exact (Kd.z12 HO109.out).2.2|(with_reducible refine Kd.z0 ?_ _)|(with_reducible refine Kd.z3 ?_ _)|(with_reducible refine Kd.z2 ?_)));(case side4=>exact (Kd.z12 HO109.out).2.1);(case side5=>exact far_slice (IsS127.own_ne HI0.out HO109.out (by decide)));rintro e w8 ⟨rfl,hi,hb,hk⟩;refine ⟨_,rfl,?_⟩;have n0_:=zA (KeepBut.blk hk (g':=gb106) (o:=.cells #[.string bz0,.string bz0] 30 (0,0)) (by (with_reducible repeat (first|refine zq6 ?_ _|refine zq8 ?_|refine zq5 ?_ _));exact BK106.out) NB106_0.out (by simp));have n1_:=zA (Kd.z11 (Kd.z9 (IsS127.apart (show IsS127 w0 _ g s0_0 s0_1 from by repeat (first|(with_reducible first|exact HI0.out|apply IsS127.alloc|apply IsS127.drewN|apply IsS127.drew|apply IsS127.set_1|refine IsS127.far ?_ NB0_106.out _)|exact HI0.out)) (by (with_reducible repeat (first|apply Kd.z4|apply Kd.z7|apply Kd.z6));exact HO109.out) (by decide)) hk (fun _ h=>h.2)) (fun _ h=>h.1));have n2_:=zA (KeepBut.trans (by repeat (first|(with_reducible first|exact HK.out|apply KeepBut.set_|apply zq9|apply zq12|apply zq10|refine zq15 ?_ GW106.out _)|exact HK.out)) hk (.inl rfl));have n3_:=zA (hb);have n4_:=zA (hi);clear BK106;clear HO109;clear HK;clear HB;clear HI0;have BK106:=n0_;have HO109:=n1_;have HK:=n2_;have HB:=n3_;have HI0:=n4_;clear n0_ n1_ n2_ n3_ n4_;(try clear hb);(try clear hk);(try clear hi))|((with_reducible refine zq19 (f:=137) rfl ?_);refine goesL_ (some 7) rfl rfl Tryd.func137 (by kernel_rfl) rfl #[.pointer (some ⟨g,0,none⟩)] rfl (by (try simp only [zL3,zL4,zL5]);first|done|rfl|(simp only [zL6,zL7];rfl)) ?_;(with_reducible refine (spec_l20Domain.calls k g s0_0 t111 t112 t113 w0 _ ?side1 ?side2 A3.out).mono ?_);(case side1=>repeat (first|(with_reducible first|exact HI0.out|apply IsS127.alloc|apply IsS127.drewN|apply IsS127.drew|apply IsS127.set_1|refine IsS127.far ?_ NB0_106.out _)|exact HI0.out));(case side2=>repeat (first|(with_reducible first|exact HB.out|apply zq4|apply zq0|apply zq3|refine zq2 ?_ (IsS127.ge HI0.out)|refine zq2 ?_ GE106.out)|exact HB.out));rintro e w9 ⟨rfl,hi,hb,hk⟩;refine ⟨_,rfl,?_⟩;have n0_:=zA (KeepBut.blk hk (g':=gb106) (o:=.cells #[.string bz0,.string bz0] 30 (0,0)) (by (with_reducible repeat (first|refine zq6 ?_ _|refine zq8 ?_|refine zq5 ?_ _));exact BK106.out) NB106_0.out (by simp));have n1_:=zA (Kd.z11 (Kd.z9 (IsS127.apart (show IsS127 w0 _ g s0_0 t111 from by repeat (first|(with_reducible first|exact HI0.out|apply IsS127.alloc|apply IsS127.drewN|apply IsS127.drew|apply IsS127.set_1|refine IsS127.far ?_ NB0_106.out _)|exact HI0.out)) (by (with_reducible repeat (first|apply Kd.z4|apply Kd.z7|apply Kd.z6));exact HO109.out) (by decide)) hk (fun _ h=>h.2)) (fun _ h=>h.1));have n2_:=zA (KeepBut.trans (by repeat (first|(with_reducible first|exact HK.out|apply KeepBut.set_|apply zq9|apply zq12|apply zq10|refine zq15 ?_ GW106.out _)|exact HK.out)) hk (.inl rfl));have n3_:=zA (hb);have n4_:=zA (hi);clear BK106;clear HO109;clear HK;clear HB;clear HI0;have BK106:=n0_;have HO109:=n1_;have HK:=n2_;have HB:=n3_;have HI0:=n4_;clear n0_ n1_ n2_ n3_ n4_;(try clear hb);(try clear hk);(try clear hi);have hnb10:=NB106_0.out;have hnc10:=NB0_106.out;have hcz11_0:w9.cell? ⟨gb106,0,none⟩=some (.string bz0):=zq1 BK106.out 0;have hcz11_1:w9.cell? ⟨gb106,1,none⟩=some (.string bz0):=zq1 BK106.out 1;have hfz11_0:=zq7 BK106.out 0;have hfz11_1:=zq7 BK106.out 1))
 refine bodyPost_ret (results_cell_row rfl _ _ gb106 30 #[.string t110,.string t112] (0,0) _ rfl (by (with_reducible repeat (first|refine zq6 ?_ _|refine zq8 ?_|refine zq5 ?_ _));refine zq18 (cs:=#[.string t110,.string bz0]) ?_ 1 _ rfl;(with_reducible repeat (first|refine zq6 ?_ _|refine zq8 ?_|refine zq5 ?_ _));refine zq18 (cs:=#[.string bz0,.string bz0]) ?_ 0 _ rfl;(with_reducible repeat (first|refine zq6 ?_ _|refine zq8 ?_|refine zq5 ?_ _));exact BK106.out) Tryd.underlying30 rfl (by kernel_rfl)) rfl ?_
 exact ⟨by first|rfl|(simp [zq16,zq17]<;>rfl)|(simp [*,zq16,zq17]<;>rfl),by repeat (first|(with_reducible first|exact HI0.out|apply IsS127.alloc|apply IsS127.drewN|apply IsS127.drew|apply IsS127.set_1|refine IsS127.far ?_ NB0_106.out _)|exact HI0.out),by repeat (first|(with_reducible first|exact HB.out|apply zq4|apply zq0|apply zq3|refine zq2 ?_ (IsS127.ge HI0.out)|refine zq2 ?_ GE106.out)|exact HB.out),by repeat (first|(with_reducible first|exact HK.out|apply KeepBut.set_|apply zq9|apply zq12|apply zq10|refine zq15 ?_ GW106.out _)|exact HK.out)⟩
end Go.Proofs.YthkibaldmjfmmaaDoor.Q
