/- Of a text of ours what this claim needs. -/
import Derived.Test.YthkibaldmjfmmaaGreatDoorZzFnMailGetSQ0
import Derived.Test.YthkibaldmjfmmaaGreatDoorZzFnMailGetSQ2
namespace Go.Proofs.YthkibaldmjfmmaaGreatDoor.Q
open Go.RowKit Go.Proofs.YthkibaldmjfmmaaGreatDoorW.PrintWords Go.Proofs.YthkibaldmjfmmaaGreatDoorW.PrintLast Go.Proofs.YthkibaldmjfmmaaGreatDoorW.PrintMore
attribute [local go_sem] max2_int min2_int max_two min_two max_three min_three max_four min_four
set_option linter.unusedVariables false
set_option linter.unusedSimpArgs false
def spec_l20Rd_one.f (k:Nat) (s0_0:List Int) (s0_1:Int) (l1:List Int):Option (Int × Int):=(spec_l20Rd_pick.f k s0_0 s0_1 (l1.length:Int)).bind fun bt101=>(if 0≤bt101.1 then (if bt101.1 < (l1.length:Int) then (some (rd l1 bt101.1,bt101.2)) else (none)) else (none))
set_option maxHeartbeats 8000000 in
set_option maxRecDepth 100000 in
theorem spec_l20Rd_one.calls (k:Nat) (g:Nat) (s0_0:List Int) (s0_1:Int) (A1:Option Addr) (c1:Nat) (l1:List Int) (r1:Int) (r2:Int) (w0 w:World) (hI:IsS69 w0 w g s0_0 s0_1) (hB:Below w0.heap.size w0 w) (hr1:Kd.C (Kd.int .i64) w A1 l1.length l1) (hc1:l1.length≤c1) (hf1:∀ ad,A1=some ad→0 < l1.length→ad.block≠g) (h:spec_l20Rd_one.f k s0_0 s0_1 l1=some (r1,r2)) :
 Calls Tryz.prog 80 #[.pointer (some ⟨g,0,none⟩),.slice A1 l1.length c1] w fun e w'=>e=.returned (.int .i64 r1)∧IsS69 w0 w' g s0_0 r2∧Below w0.heap.size w0 w'∧KeepBut w w' g none:=by
 have HR1:=Aside0.mk hr1
 have HC1:=Aside0.mk hc1
 clear hr1 hc1
 have HI0:=Aside0.mk hI
 have HK:=Aside0.mk (KeepBut.refl w g none)
 have HL:=Aside0.mk hB.size
 clear hI
 have HW0:=Aside0.mk hB.size
 have HB:=Aside0.mk hB
 clear hB
 have H:((spec_l20Rd_pick.f k s0_0 s0_1 (l1.length:Int)).bind fun bt101=>(if 0≤bt101.1 then (if bt101.1 < (l1.length:Int) then (some (rd l1 bt101.1,bt101.2)) else (none)) else (none)))=some (r1,r2):=h
 clear h
 replace H:=Option.bind_eq_some_iff.mp H
 obtain ⟨⟨t101,t102⟩,A30,H⟩:=H
 replace H:(if 0≤t101 then (if t101 < (l1.length:Int) then (some (rd l1 t101,t102)) else (none)) else (none))=some (r1,r2):=H
 have A3:=Aside0.mk A30
 clear A30
 by_cases c4:0≤t101
 ·rw [if_pos c4] at H
  have c4b0:decide (0≤t101)=true:=decide_eq_true c4
  clear c4
  by_cases c5:t101 < (l1.length:Int)
  ·rw [if_pos c5] at H
   have c5b0:decide (t101 < (l1.length:Int))=true:=decide_eq_true c5
   clear c5
   simp only [Option.some.injEq,Prod.mk.injEq] at H
   obtain ⟨rfl,rfl⟩:=H
   go_enter Tryz.func80,Tryz.ntmps80
   go_wp2_with (first|((with_reducible refine zq14 (f:=47) rfl ?_);refine zq20 (some 9) rfl rfl Tryz.func47 (by kernel_rfl) rfl #[.pointer (some ⟨g,0,none⟩),.int .i64 (l1.length:Int)] rfl (by (try simp only [List.map_toArray,List.map_cons,List.map_nil]);first|done|rfl|(simp only [List.length_drop,List.length_take];rfl)) ?_;(with_reducible refine (spec_l20Rd_pick.calls k g s0_0 s0_1 (l1.length:Int) t101 t102 w0 _ ?side1 ?side2 A3.out).mono ?_);(case side1=>repeat (first|(with_reducible first|exact HI0.out|apply IsS69.alloc|apply IsS69.drewN|apply IsS69.drew|apply IsS69.set_1)|exact HI0.out));(case side2=>repeat (first|(with_reducible first|exact HB.out|apply zq1|apply zq0|apply zq2|refine zq5 ?_ (IsS69.ge HI0.out))|exact HB.out));rintro e w6 ⟨rfl,hi,hb,hk⟩;refine ⟨_,rfl,?_⟩;have n0_:=Aside0.mk (KeepBut.trans (by repeat (first|(with_reducible first|exact HK.out|apply KeepBut.set_|apply zq15|apply zq18|apply zq16)|exact HK.out)) hk (.inl rfl));have n1_:=Aside0.mk (hb);have n2_:=Aside0.mk (hi);clear HK;clear HB;clear HI0;have HK:=n0_;have HB:=n1_;have HI0:=n2_;clear n0_ n1_ n2_;(try clear hb);(try clear hb2);(try clear hk);(try clear hi);have p103:0≤(t101:Int):=of_decide_eq_true (by first|(with_reducible assumption)|assumption);have q103:t101 < (l1.length:Int):=of_decide_eq_true (by first|(with_reducible assumption)|assumption);obtain ⟨ad103,e103,hx103_0⟩:=Kd.at_int HR1.out t101 p103 q103;cases e103;replace hx103_0:=keep_cell HK.out hx103_0 (by first|(rw [add_block];exact hf1 _ rfl (by omega))|exact hf1 _ rfl (by omega)|exact hf1 ad103 rfl (by omega));replace p103:=eq_true p103;replace q103:=eq_true q103))
   go_ret
   exact ⟨by first|rfl|(simp [zq11,zq12]<;>rfl)|(simp [*,zq11,zq12]<;>rfl),by repeat (first|(with_reducible first|exact HI0.out|apply IsS69.alloc|apply IsS69.drewN|apply IsS69.drew|apply IsS69.set_1)|exact HI0.out),by repeat (first|(with_reducible first|exact HB.out|apply zq1|apply zq0|apply zq2|refine zq5 ?_ (IsS69.ge HI0.out))|exact HB.out),by repeat (first|(with_reducible first|exact HK.out|apply KeepBut.set_|apply zq15|apply zq18|apply zq16)|exact HK.out)⟩
  ·rw [if_neg c5] at H
   exact absurd H (by simp)
 ·rw [if_neg c4] at H
  exact absurd H (by simp)
def spec_l20Line.f (k:Nat) (s0_0:List Int) (s0_1:Int):Option (ByteArray × Int):=(spec_l20Rd_of.f k s0_0 s0_1 (([(⟨#[104,101,108,108,111]⟩:ByteArray),(⟨#[]⟩:ByteArray),(⟨#[46]⟩:ByteArray),(⟨#[46,46]⟩:ByteArray),(⟨#[46,100,111,116]⟩:ByteArray),(⟨#[97,32,108,111,110,103,101,114,32,108,105,110,101,32,111,102,32,116,101,120,116]⟩:ByteArray),(⟨#[72,111,112,58,32,111,110,101,46,111,114,103]⟩:ByteArray),(⟨#[72,111,112,58,32]⟩:ByteArray),(⟨#[73,100,58,32,55]⟩:ByteArray),(⟨#[110,111,116,32,100,101,108,105,118,101,114,101,100,58]⟩:ByteArray),(⟨#[60,97,64,111,110,101,46,111,114,103,62]⟩:ByteArray),(⟨#[108,105,110,101,32,116,104,97,116,32,105,115,32,101,120,97,99,116,108,121,32,102,111,114,116,121,32,98,121,116,101,115,32,108,111,110,103,46,46,33]⟩:ByteArray)]:List ByteArray))).bind fun bt104=>(some (bt104.1,bt104.2))
set_option maxHeartbeats 8000000 in
set_option maxRecDepth 100000 in
theorem spec_l20Line.calls (k:Nat) (g:Nat) (s0_0:List Int) (s0_1:Int) (r1:ByteArray) (r2:Int) (w0 w:World) (hI:IsS69 w0 w g s0_0 s0_1) (hB:Below w0.heap.size w0 w) (h:spec_l20Line.f k s0_0 s0_1=some (r1,r2)) :
 Calls Tryz.prog 99 #[.pointer (some ⟨g,0,none⟩)] w fun e w'=>e=.returned (.string r1)∧IsS69 w0 w' g s0_0 r2∧Below w0.heap.size w0 w'∧KeepBut w w' g none:=by
 have HI0:=Aside0.mk hI
 have HK:=Aside0.mk (KeepBut.refl w g none)
 have HL:=Aside0.mk hB.size
 clear hI
 have HW0:=Aside0.mk hB.size
 have HB:=Aside0.mk hB
 clear hB
 have H:((spec_l20Rd_of.f k s0_0 s0_1 (([bz24,bz0,bz4,bz25,bz26,bz27,bz28,bz29,bz30,bz31,bz32,bz33]:List ByteArray))).bind fun bt104=>(some (bt104.1,bt104.2)))=some (r1,r2):=h
 clear h
 obtain ⟨y101,hy101⟩:∃ y_:List ByteArray,y_=(([bz24,bz0,bz4,bz25,bz26,bz27,bz28,bz29,bz30,bz31,bz32,bz33]:List ByteArray)):=⟨_,rfl⟩
 replace H:((spec_l20Rd_of.f k s0_0 s0_1 y101).bind fun bt104=>(some (bt104.1,bt104.2)))=some (r1,r2):=by first|(rw [hy101];with_reducible exact H)|(have H2_:=(Option.bind_some _ _).symm.trans H;rw [hy101];with_reducible exact H2_)|(have H2_:=(Option.bind_some _ _).symm.trans H;with_reducible exact H2_)|with_reducible exact H|(rw [hy101];exact H)|exact H
 have Ny101:=Aside0.mk hy101
 clear hy101
 replace H:=Option.bind_eq_some_iff.mp H
 obtain ⟨⟨t104,t105⟩,A20,H⟩:=H
 replace H:(some (t104,t105))=some (r1,r2):=H
 have A2:=Aside0.mk A20
 clear A20
 simp only [Option.some.injEq,Prod.mk.injEq] at H
 obtain ⟨rfl,rfl⟩:=H
 go_enter Tryz.func99,Tryz.ntmps99
 go_wp2_with (first|((with_reducible refine zq21 (N:=4) rfl ?_);refine Kd.R_lit Kd.string _ 9 ?hg (N:=4) ?hd (xs:=([bz24,bz0,bz4,bz25,bz26,bz27,bz28,bz29,bz30,bz31,bz32,bz33]:List ByteArray)) (inner:=[.string bz24,.string bz0,.string bz4,.string bz25,.string bz26,.string bz27,.string bz28,.string bz29,.string bz30,.string bz31,.string bz32,.string bz33]) (ok:=fun _=>True) (okp:=fun _=>True) ?hr ?hp (fun _ hk=>hk) trivial (Below.refl _ _) (Nat.le_refl _) (by simp) ?_;(case hd=>rfl);(case hg=>rfl);(case hr=>first|(go_simp;done)|(go_simp;rfl));(case hp=>exact (Reps.one (show Kd.M Kd.string _ _ _ bz24 [.string bz24] from rfl) (Reps.one (show Kd.M Kd.string _ _ _ bz0 [.string bz0] from rfl) (Reps.one (show Kd.M Kd.string _ _ _ bz4 [.string bz4] from rfl) (Reps.one (show Kd.M Kd.string _ _ _ bz25 [.string bz25] from rfl) (Reps.one (show Kd.M Kd.string _ _ _ bz26 [.string bz26] from rfl) (Reps.one (show Kd.M Kd.string _ _ _ bz27 [.string bz27] from rfl) (Reps.one (show Kd.M Kd.string _ _ _ bz28 [.string bz28] from rfl) (Reps.one (show Kd.M Kd.string _ _ _ bz29 [.string bz29] from rfl) (Reps.one (show Kd.M Kd.string _ _ _ bz30 [.string bz30] from rfl) (Reps.one (show Kd.M Kd.string _ _ _ bz31 [.string bz31] from rfl) (Reps.one (show Kd.M Kd.string _ _ _ bz32 [.string bz32] from rfl) (Reps.one (show Kd.M Kd.string _ _ _ bz33 [.string bz33] from rfl) (Reps.none _ _))))))))))))));intro v102 w3 ho4 hb hg_ hnew_;clear hg_ hnew_;(first|rw [← Ny101.out] at ho4|(simp only [Int.reduceToNat] at ho4;rw [← Ny101.out] at ho4));have n0_:=Aside0.mk (Kd.R_lower ho4 (keep_size (w:=w) (g:=g) (row:=none) (by repeat (first|(with_reducible first|exact HK.out|apply KeepBut.set_|apply zq15|apply zq18|apply zq16)|exact HK.out))));have n1_:=Aside0.mk (IsS69.below (by repeat (first|(with_reducible first|exact HI0.out|apply IsS69.alloc|apply IsS69.drewN|apply IsS69.drew|apply IsS69.set_1)|exact HI0.out)) hb);have n2_:=Aside0.mk (KeepBut.trans (by repeat (first|(with_reducible first|exact HK.out|apply KeepBut.set_|apply zq15|apply zq18|apply zq16)|exact HK.out)) (KeepBut.of_below hb g none) (.inl rfl));have n3_:=Aside0.mk (zq9 (by repeat (first|(with_reducible first|exact HB.out|apply zq1|apply zq0|apply zq2|refine zq5 ?_ (IsS69.ge HI0.out))|exact HB.out)) hb);clear HI0;clear HK;clear HB;have HO103:=n0_;have HI0:=n1_;have HK:=n2_;have HB:=n3_;clear n0_ n1_ n2_ n3_;clear hb ho4;obtain ⟨Ao5,co5,eo5⟩:=Kd.R_slice HO103.out;subst eo5)|((with_reducible refine zq14 (f:=81) rfl ?_);refine zq20 (some 5) rfl rfl Tryz.func81 (by kernel_rfl) rfl #[.pointer (some ⟨g,0,none⟩),.slice Ao5 y101.length co5] rfl (by (try simp only [List.map_toArray,List.map_cons,List.map_nil]);first|done|rfl|(simp only [List.length_drop,List.length_take];rfl)) ?_;(with_reducible refine (spec_l20Rd_of.calls k g s0_0 s0_1 _ _ y101 t104 t105 w0 _ ?side1 ?side2 ?side3 ?side4 ?side5 A2.out).mono ?_);(case side1=>repeat (first|(with_reducible first|exact HI0.out|apply IsS69.alloc|apply IsS69.drewN|apply IsS69.drew|apply IsS69.set_1)|exact HI0.out));(case side2=>repeat (first|(with_reducible first|exact HB.out|apply zq1|apply zq0|apply zq2|refine zq5 ?_ (IsS69.ge HI0.out))|exact HB.out));(case side3=>repeat (first|exact (Kd.R_reads' HO103.out).2.2|(with_reducible refine Kd.C_alloc ?_ _)|(with_reducible refine Kd.C_drewN ?_ _)|(with_reducible refine Kd.C_drew ?_)));(case side4=>exact (Kd.R_reads' HO103.out).2.1);(case side5=>exact far_slice (IsS69.own_ne HI0.out HO103.out (by decide)));rintro e w6 ⟨rfl,hi,hb,hk⟩;refine ⟨_,rfl,?_⟩;have n0_:=Aside0.mk (Kd.R_mono (Kd.R_keep (IsS69.apart (show IsS69 w0 _ g s0_0 s0_1 from by repeat (first|(with_reducible first|exact HI0.out|apply IsS69.alloc|apply IsS69.drewN|apply IsS69.drew|apply IsS69.set_1)|exact HI0.out)) (by (with_reducible repeat (first|apply Kd.R_alloc|apply Kd.R_drewN|apply Kd.R_drew));exact HO103.out) (by decide)) hk (fun _ h=>h.2)) (fun _ h=>h.1));have n1_:=Aside0.mk (KeepBut.trans (by repeat (first|(with_reducible first|exact HK.out|apply KeepBut.set_|apply zq15|apply zq18|apply zq16)|exact HK.out)) hk (.inl rfl));have n2_:=Aside0.mk (hb);have n3_:=Aside0.mk (hi);clear HO103;clear HK;clear HB;clear HI0;have HO103:=n0_;have HK:=n1_;have HB:=n2_;have HI0:=n3_;clear n0_ n1_ n2_ n3_;(try clear hb);(try clear hb2);(try clear hk);(try clear hi)))
 go_ret
 exact ⟨by first|rfl|(simp [zq11,zq12]<;>rfl)|(simp [*,zq11,zq12]<;>rfl),by repeat (first|(with_reducible first|exact HI0.out|apply IsS69.alloc|apply IsS69.drewN|apply IsS69.drew|apply IsS69.set_1)|exact HI0.out),by repeat (first|(with_reducible first|exact HB.out|apply zq1|apply zq0|apply zq2|refine zq5 ?_ (IsS69.ge HI0.out))|exact HB.out),by repeat (first|(with_reducible first|exact HK.out|apply KeepBut.set_|apply zq15|apply zq18|apply zq16)|exact HK.out)⟩
def spec_l20Body.l0:Nat→List ByteArray→Int→List Int→Int→Option (List ByteArray × Int)
 | 0,_,_,_,_=>none
 | k+1,x5,x6,x1000,x1001=>if x6 > 0 then ((spec_l20Line.f k x1000 x1001).bind fun bt111=>(if x5.length < 8796093022208 then (spec_l20Body.l0 k (x5++[bt111.1]) (wrap64 (x6 - 1)) x1000 bt111.2) else (none))) else (some (x5,x1001))
def spec_l20Body.f (k:Nat) (s0_0:List Int) (s0_1:Int) (a1:Int):Option (List ByteArray × Int):=(spec_l20Rd_pick.f k s0_0 s0_1 (wrap64 (a1+1))).bind fun bt109=>(spec_l20Body.l0 k (([]:List ByteArray)) bt109.1 s0_0 bt109.2)
set_option maxHeartbeats 8000000 in
set_option maxRecDepth 100000 in
theorem spec_l20Body.calls (k:Nat) (g:Nat) (s0_0:List Int) (s0_1:Int) (a1:Int) (r1:List ByteArray) (r2:Int) (w0 w:World) (hI:IsS69 w0 w g s0_0 s0_1) (hB:Below w0.heap.size w0 w) (h:spec_l20Body.f k s0_0 s0_1 a1=some (r1,r2)) :
 Calls Tryz.prog 79 #[.pointer (some ⟨g,0,none⟩),.int .i64 a1] w fun e w'=>∃ v0_:Value,e=.returned (v0_)∧Kd.R Kd.string 9 w' w.heap.size (fun _=>True) v0_ r1∧IsS69 w0 w' g s0_0 r2∧Below w0.heap.size w0 w'∧KeepBut w w' g none:=by
 have HI0:=Aside0.mk hI
 have HK:=Aside0.mk (KeepBut.refl w g none)
 have HL:=Aside0.mk hB.size
 clear hI
 have HW0:=Aside0.mk hB.size
 have HB:=Aside0.mk hB
 clear hB
 have H:((spec_l20Rd_pick.f k s0_0 s0_1 (wrap64 (a1+1))).bind fun bt109=>(spec_l20Body.l0 k (([]:List ByteArray)) bt109.1 s0_0 bt109.2))=some (r1,r2):=h
 clear h
 obtain ⟨y106,hy106⟩:∃ y_:List ByteArray,y_=(([]:List ByteArray)):=⟨_,rfl⟩
 replace H:((spec_l20Rd_pick.f k s0_0 s0_1 (wrap64 (a1+1))).bind fun bt109=>(spec_l20Body.l0 k y106 bt109.1 s0_0 bt109.2))=some (r1,r2):=by first|(rw [hy106];with_reducible exact H)|(have H2_:=(Option.bind_some _ _).symm.trans H;rw [hy106];with_reducible exact H2_)|(have H2_:=(Option.bind_some _ _).symm.trans H;with_reducible exact H2_)|with_reducible exact H|(rw [hy106];exact H)|exact H
 have Ny106:=Aside0.mk hy106
 clear hy106
 replace H:=Option.bind_eq_some_iff.mp H
 obtain ⟨⟨t109,t110⟩,A30,H⟩:=H
 replace H:(spec_l20Body.l0 k y106 t109 s0_0 t110)=some (r1,r2):=H
 have A3:=Aside0.mk A30
 clear A30
 have H':=Aside0.mk H
 clear H
 go_enter Tryz.func79,Tryz.ntmps79
 go_wp2_with (first|((with_reducible refine zq21 (N:=7) rfl ?_);refine Kd.R_lit Kd.string _ 9 ?hg (N:=7) ?hd (xs:=([]:List ByteArray)) (inner:=[]) (ok:=fun _=>True) (okp:=fun _=>True) ?hr ?hp (fun _ hk=>hk) trivial (Below.refl _ _) (Nat.le_refl _) (by simp) ?_;(case hd=>rfl);(case hg=>rfl);(case hr=>first|(go_simp;done)|(go_simp;rfl));(case hp=>exact (Reps.none _ _));intro v107 w4 ho5 hb hg_ hnew_;clear hg_ hnew_;(first|rw [← Ny106.out] at ho5|(simp only [Int.reduceToNat] at ho5;rw [← Ny106.out] at ho5));have n0_:=Aside0.mk (Kd.R_lower ho5 (keep_size (w:=w) (g:=g) (row:=none) (by repeat (first|(with_reducible first|exact HK.out|apply KeepBut.set_|apply zq15|apply zq18|apply zq16)|exact HK.out))));have n1_:=Aside0.mk (IsS69.below (by repeat (first|(with_reducible first|exact HI0.out|apply IsS69.alloc|apply IsS69.drewN|apply IsS69.drew|apply IsS69.set_1)|exact HI0.out)) hb);have n2_:=Aside0.mk (KeepBut.trans (by repeat (first|(with_reducible first|exact HK.out|apply KeepBut.set_|apply zq15|apply zq18|apply zq16)|exact HK.out)) (KeepBut.of_below hb g none) (.inl rfl));have n3_:=Aside0.mk (zq9 (by repeat (first|(with_reducible first|exact HB.out|apply zq1|apply zq0|apply zq2|refine zq5 ?_ (IsS69.ge HI0.out))|exact HB.out)) hb);clear HI0;clear HK;clear HB;have HO108:=n0_;have HI0:=n1_;have HK:=n2_;have HB:=n3_;clear n0_ n1_ n2_ n3_;clear hb ho5)|((with_reducible refine zq14 (f:=47) rfl ?_);refine zq20 (some 11) rfl rfl Tryz.func47 (by kernel_rfl) rfl #[.pointer (some ⟨g,0,none⟩),.int .i64 (wrap64 (a1+1))] rfl (by (try simp only [List.map_toArray,List.map_cons,List.map_nil]);first|done|rfl|(simp only [List.length_drop,List.length_take];rfl)) ?_;(with_reducible refine (spec_l20Rd_pick.calls k g s0_0 s0_1 (wrap64 (a1+1)) t109 t110 w0 _ ?side1 ?side2 A3.out).mono ?_);(case side1=>repeat (first|(with_reducible first|exact HI0.out|apply IsS69.alloc|apply IsS69.drewN|apply IsS69.drew|apply IsS69.set_1)|exact HI0.out));(case side2=>repeat (first|(with_reducible first|exact HB.out|apply zq1|apply zq0|apply zq2|refine zq5 ?_ (IsS69.ge HI0.out))|exact HB.out));rintro e w6 ⟨rfl,hi,hb,hk⟩;refine ⟨_,rfl,?_⟩;have n0_:=Aside0.mk (Kd.R_mono (Kd.R_keep (IsS69.apart (show IsS69 w0 _ g s0_0 s0_1 from by repeat (first|(with_reducible first|exact HI0.out|apply IsS69.alloc|apply IsS69.drewN|apply IsS69.drew|apply IsS69.set_1)|exact HI0.out)) (by (with_reducible repeat (first|apply Kd.R_alloc|apply Kd.R_drewN|apply Kd.R_drew));exact HO108.out) (by decide)) hk (fun _ h=>h.2)) (fun _ h=>h.1));have n1_:=Aside0.mk (KeepBut.trans (by repeat (first|(with_reducible first|exact HK.out|apply KeepBut.set_|apply zq15|apply zq18|apply zq16)|exact HK.out)) hk (.inl rfl));have n2_:=Aside0.mk (hb);have n3_:=Aside0.mk (hi);clear HO108;clear HK;clear HB;clear HI0;have HO108:=n0_;have HK:=n1_;have HB:=n2_;have HI0:=n3_;clear n0_ n1_ n2_ n3_;(try clear hb);(try clear hb2);(try clear hk);(try clear hi)))
 go_loopg [5,6] k (fun kq v5 v6 w'=>∃ (x5_1:List ByteArray) (x6_1:Int) (x1001_1:Int),v6=.int .i64 x6_1∧Aside0 (spec_l20Body.l0 kq x5_1 x6_1 s0_0 x1001_1=some (r1,r2))∧Aside0 (kq≤k)∧Aside0 (Kd.R Kd.string 9 w' w.heap.size (fun _=>True) v5 x5_1)∧Aside0 (IsS69 w0 w' g s0_0 x1001_1)∧Aside0 (KeepBut w w' g none)∧Aside0 (Below w0.heap.size w0 w'))
 case atStart=>exact ⟨(y106),(t109),(t110),(by first|rfl|(simp;done)|(simp [*];done)),H',⟨Nat.le_refl _⟩,⟨by (with_reducible repeat (first|apply Kd.R_alloc|apply Kd.R_drewN|apply Kd.R_drew));exact HO108.out⟩,⟨by repeat (first|(with_reducible first|exact HI0.out|apply IsS69.alloc|apply IsS69.drewN|apply IsS69.drew|apply IsS69.set_1)|exact HI0.out)⟩,⟨by repeat (first|(with_reducible first|exact HK.out|apply KeepBut.set_|apply zq15|apply zq18|apply zq16)|exact HK.out)⟩,⟨by repeat (first|(with_reducible first|exact HB.out|apply zq1|apply zq0|apply zq2|refine zq5 ?_ (IsS69.ge HI0.out))|exact HB.out)⟩⟩
 case round =>
  clear H'
  try clear p2
  try clear c4
  try clear p6
  obtain ⟨x5_1,x6_1,x1001_1,rfl,HA,HK1,HO_5,HI0,HK,HB⟩:=hrel
  cases gk with
  | zero=>exact absurd HA.out (by simp [spec_l20Body.l0])
  | succ k1 =>
   have H:=HA.out
   clear HA
   simp only [spec_l20Body.l0] at H
   by_cases c7:x6_1 > 0
   ·rw [if_pos c7] at H
    have c7b0:decide (0 < x6_1)=true:=decide_eq_true c7
    clear c7
    replace H:=Option.bind_eq_some_iff.mp H
    obtain ⟨⟨t111,t112⟩,A80,H⟩:=H
    replace H:(if x5_1.length < 8796093022208 then (spec_l20Body.l0 k1 (x5_1++[t111]) (wrap64 (x6_1 - 1)) s0_0 t112) else (none))=some (r1,r2):=H
    have A8:=Aside0.mk A80
    clear A80
    by_cases c9:x5_1.length < 8796093022208
    ·rw [if_pos c9] at H
     have LMc9:=Aside0.mk c9
     clear c9
     obtain ⟨y113,hy113⟩:∃ y_:List ByteArray,y_=(x5_1++[t111]):=⟨_,rfl⟩
     replace H:(spec_l20Body.l0 k1 y113 (wrap64 (x6_1 - 1)) s0_0 t112)=some (r1,r2):=by first|(rw [hy113];with_reducible exact H)|(have H2_:=(Option.bind_some _ _).symm.trans H;rw [hy113];with_reducible exact H2_)|(have H2_:=(Option.bind_some _ _).symm.trans H;with_reducible exact H2_)|with_reducible exact H|(rw [hy113];exact H)|exact H
     have Ny113:=Aside0.mk hy113
     clear hy113
     have H':=Aside0.mk H
     clear H
     go_wp2_with (first|((with_reducible refine zq14 (f:=99) rfl ?_);refine zq20 (some 18) rfl rfl Tryz.func99 (by kernel_rfl) rfl #[.pointer (some ⟨g,0,none⟩)] rfl (by (try simp only [List.map_toArray,List.map_cons,List.map_nil]);first|done|rfl|(simp only [List.length_drop,List.length_take];rfl)) ?_;(with_reducible refine (spec_l20Line.calls k1 g s0_0 x1001_1 t111 t112 w0 _ ?side1 ?side2 A8.out).mono ?_);(case side1=>repeat (first|(with_reducible first|exact HI0.out|apply IsS69.alloc|apply IsS69.drewN|apply IsS69.drew|apply IsS69.set_1)|exact HI0.out));(case side2=>repeat (first|(with_reducible first|exact HB.out|apply zq1|apply zq0|apply zq2|refine zq5 ?_ (IsS69.ge HI0.out))|exact HB.out));rintro e w10 ⟨rfl,hi,hb,hk⟩;refine ⟨_,rfl,?_⟩;have n0_:=Aside0.mk (Kd.R_mono (Kd.R_keep (IsS69.apart (show IsS69 w0 _ g s0_0 x1001_1 from by repeat (first|(with_reducible first|exact HI0.out|apply IsS69.alloc|apply IsS69.drewN|apply IsS69.drew|apply IsS69.set_1)|exact HI0.out)) (by (with_reducible repeat (first|apply Kd.R_alloc|apply Kd.R_drewN|apply Kd.R_drew));exact HO_5.out) (by decide)) hk (fun _ h=>h.2)) (fun _ h=>h.1));have n1_:=Aside0.mk (KeepBut.trans (by repeat (first|(with_reducible first|exact HK.out|apply KeepBut.set_|apply zq15|apply zq18|apply zq16)|exact HK.out)) hk (.inl rfl));have n2_:=Aside0.mk (hb);have n3_:=Aside0.mk (hi);clear HO_5;clear HK;clear HB;clear HI0;have HO_5:=n0_;have HK:=n1_;have HB:=n2_;have HI0:=n3_;clear n0_ n1_ n2_ n3_;(try clear hb);(try clear hb2);(try clear hk);(try clear hi))|((with_reducible refine gate_builtin (b:=.append) (xs:=#[.tmp 16,.tmp 19]) rfl ?_);at_builtin;refine Kd.R_append Kd.string w.heap.size rfl (.tmp 16) (.tmp 19) 26 9 (.string ⟨#[]⟩) 16 rfl Tryz.underlying26 info9 rfl (by decide) (by omega) u5 x5_1 t111 [.string t111] (fun _=>True) (fun _=>False) rfl rfl ?aP (fun _ hk=>hk.elim) ?aF ?aO (Below.refl _ _) ?aS ?aL ?_;(case aP=>exact rfl);(case aF=>exact (fun _ _=>trivial));(case aO=>exact (by (with_reducible repeat (first|apply Kd.R_alloc|apply Kd.R_drewN|apply Kd.R_drew));exact HO_5.out));(case aS=>exact (keep_size (w:=w) (g:=g) (row:=none) (by repeat (first|(with_reducible first|exact HK.out|apply KeepBut.set_|apply zq15|apply zq18|apply zq16)|exact HK.out))));(case aL=>have:=LMc9.out;omega);intro v114 w11 ho hb hg hat;rw [← Ny113.out] at ho;have n0_:=Aside0.mk (IsS69.grown (by repeat (first|(with_reducible first|exact HI0.out|apply IsS69.alloc|apply IsS69.drewN|apply IsS69.drew|apply IsS69.set_1)|exact HI0.out)) hg (IsS69.own_ne HI0.out HO_5.out (by decide)));have n1_:=Aside0.mk (below_weaken (by repeat (first|(with_reducible first|exact HB.out|apply zq1|apply zq0|apply zq2|refine zq5 ?_ (IsS69.ge HI0.out))|exact HB.out)) HL.out hb);have n2_:=Aside0.mk (KeepBut.trans (by repeat (first|(with_reducible first|exact HK.out|apply KeepBut.set_|apply zq15|apply zq18|apply zq16)|exact HK.out)) (KeepBut.of_grown hg g) (Kd.R_base2 HO_5.out));have n3_:=Aside0.mk (ho);clear HI0;clear HB;clear HK;clear HO_5;have HI0:=n0_;have HB:=n1_;have HK:=n2_;have HO115:=n3_;clear n0_ n1_ n2_ n3_;clear ho hb hg hat))
     go_roundg k1
     case measure=>have:=HK1.out;omega
     case rel=>exact ⟨(y113),(wrap64 (x6_1 - 1)),(t112),(by first|rfl|(simp;done)|(simp [*];done)),H',⟨by have:=HK1.out;omega⟩,⟨by (with_reducible repeat (first|apply Kd.R_alloc|apply Kd.R_drewN|apply Kd.R_drew));exact HO115.out⟩,⟨by repeat (first|(with_reducible first|exact HI0.out|apply IsS69.alloc|apply IsS69.drewN|apply IsS69.drew|apply IsS69.set_1)|exact HI0.out)⟩,⟨by repeat (first|(with_reducible first|exact HK.out|apply KeepBut.set_|apply zq15|apply zq18|apply zq16)|exact HK.out)⟩,⟨by repeat (first|(with_reducible first|exact HB.out|apply zq1|apply zq0|apply zq2|refine zq5 ?_ (IsS69.ge HI0.out))|exact HB.out)⟩⟩
    ·rw [if_neg c9] at H
     exact absurd H (by simp)
   ·rw [if_neg c7] at H
    have c7b0:decide (0 < x6_1)=false:=decide_eq_false c7
    clear c7
    simp only [Option.some.injEq,Prod.mk.injEq] at H
    obtain ⟨rfl,rfl⟩:=H
    go_wp2
    go_ret
    exact ⟨_,by first|rfl|(simp [zq11,zq12]<;>rfl)|(simp [*,zq11,zq12]<;>rfl),by (with_reducible repeat (first|apply Kd.R_alloc|apply Kd.R_drewN|apply Kd.R_drew));exact HO_5.out,by repeat (first|(with_reducible first|exact HI0.out|apply IsS69.alloc|apply IsS69.drewN|apply IsS69.drew|apply IsS69.set_1)|exact HI0.out),by repeat (first|(with_reducible first|exact HB.out|apply zq1|apply zq0|apply zq2|refine zq5 ?_ (IsS69.ge HI0.out))|exact HB.out),by repeat (first|(with_reducible first|exact HK.out|apply KeepBut.set_|apply zq15|apply zq18|apply zq16)|exact HK.out)⟩
end Go.Proofs.YthkibaldmjfmmaaGreatDoor.Q
