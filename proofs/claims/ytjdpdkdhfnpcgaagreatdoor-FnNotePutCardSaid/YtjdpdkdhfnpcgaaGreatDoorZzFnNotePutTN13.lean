/- Of a text of ours what this claim needs. -/
import Derived.SliceStrings
import Derived.ChangeOld
import Derived.SizedLaws
import Derived.DataReads
import Derived.Test.YtjdpdkdhfnpcgaaGreatDoorRows
import Derived.Lib.LaidTab
import Derived.Stop.LaidErr
import Derived.Shelf.Vars
import Derived.HandedShaped
import Derived.WideShapes
import Derived.Test.YtjdpdkdhfnpcgaaGreatDoorZzFnNotePutTN12
set_option maxHeartbeats 8000000
set_option maxRecDepth 100000
namespace Go.Proofs.YtjdpdkdhfnpcgaaGreatDoor.Q
open Go.RowKit Go.Proofs.YtjdpdkdhfnpcgaaGreatDoorW.PrintWords Go.Proofs.YtjdpdkdhfnpcgaaGreatDoorW.PrintLast Go.Proofs.YtjdpdkdhfnpcgaaGreatDoorW.PrintMore
attribute [local go_sem] max2_int min2_int max_two min_two max_three min_three max_four min_four
set_option linter.unusedVariables false
set_option linter.unusedSimpArgs false
def yag.j0:Nat→ByteArray→Bool→Int→Int→ByteArray→ByteArray→Int→ByteArray→ByteArray→List (S24)→List ByteArray→Option (Bool)
 | 0,_,_,_,_,_,_,_,_,_,_,_=>none
 | k+1,x4,Oh,AB,AC,AD,AE,AF,AG,AH,AI,AJ=>if Oh=true then((ya3.f k AB AC AD AE AF AG AH AI AJ).bind fun vv=>(if x4.toList=vv.toList then((yam.f k AB AC AD AE AF AG AH AI AJ).bind fun cH=>(some ((x4.toList != ([]:List UInt8))==cH)))else(some false)))else((yai.f k x4).bind fun k4=>(if k4.2.2.2.2.2.2.2.2.2=true then((ybv.f k k4.1 k4.2.1 k4.2.2.1 k4.2.2.2.1 k4.2.2.2.2.1 k4.2.2.2.2.2.1 k4.2.2.2.2.2.2.1 k4.2.2.2.2.2.2.2.1 k4.2.2.2.2.2.2.2.2.1 AB AC AD AE AF AG AH AI AJ).bind fun so=>(some so))else(some false)))
def yag.f (k:Nat)(l0:List Int):Option (Bool):=if(l0.length:Int)>1048576 then(some true)else((ybb.f k l0).bind fun bm=>((yay.f k bm.1 bm.2.1 bm.2.2.1 bm.2.2.2.1 bm.2.2.2.2.1 bm.2.2.2.2.2.1 bm.2.2.2.2.2.2.1 bm.2.2.2.2.2.2.2.1 bm.2.2.2.2.2.2.2.2).bind fun bJ=>((ya3.f k bm.1 bm.2.1 bm.2.2.1 bm.2.2.2.1 bm.2.2.2.2.1 bm.2.2.2.2.2.1 bm.2.2.2.2.2.2.1 bm.2.2.2.2.2.2.2.1 bm.2.2.2.2.2.2.2.2).bind fun cN=>(if bJ.toList=cN.toList then((yam.f k bm.1 bm.2.1 bm.2.2.1 bm.2.2.2.1 bm.2.2.2.2.1 bm.2.2.2.2.2.1 bm.2.2.2.2.2.2.1 bm.2.2.2.2.2.2.2.1 bm.2.2.2.2.2.2.2.2).bind fun cu=>(if((bJ.toList != ([]:List UInt8)) != cu)=true then(yag.j0 k bJ true bm.1 bm.2.1 bm.2.2.1 bm.2.2.2.1 bm.2.2.2.2.1 bm.2.2.2.2.2.1 bm.2.2.2.2.2.2.1 bm.2.2.2.2.2.2.2.1 bm.2.2.2.2.2.2.2.2)else((yam.f k bm.1 bm.2.1 bm.2.2.1 bm.2.2.2.1 bm.2.2.2.2.1 bm.2.2.2.2.2.1 bm.2.2.2.2.2.2.1 bm.2.2.2.2.2.2.2.1 bm.2.2.2.2.2.2.2.2).bind fun bG=>((ybu.f k bm.1 bm.2.1 bm.2.2.1 bm.2.2.2.1 bm.2.2.2.2.1 bm.2.2.2.2.2.1 bm.2.2.2.2.2.2.1 bm.2.2.2.2.2.2.2.1 bm.2.2.2.2.2.2.2.2).bind fun hU=>(if(bG != hU)=true then(yag.j0 k bJ true bm.1 bm.2.1 bm.2.2.1 bm.2.2.2.1 bm.2.2.2.2.1 bm.2.2.2.2.2.1 bm.2.2.2.2.2.2.1 bm.2.2.2.2.2.2.2.1 bm.2.2.2.2.2.2.2.2)else(yag.j0 k bJ (bJ.toList==([]:List UInt8)) bm.1 bm.2.1 bm.2.2.1 bm.2.2.2.1 bm.2.2.2.2.1 bm.2.2.2.2.2.1 bm.2.2.2.2.2.2.1 bm.2.2.2.2.2.2.2.1 bm.2.2.2.2.2.2.2.2))))))else(yag.j0 k bJ true bm.1 bm.2.1 bm.2.2.1 bm.2.2.2.1 bm.2.2.2.2.1 bm.2.2.2.2.2.1 bm.2.2.2.2.2.2.1 bm.2.2.2.2.2.2.2.1 bm.2.2.2.2.2.2.2.2)))))
def yag.T5:Bool × List (List Nat × List Nat):=(true,[([],[]),([],[]),([1],[1]),([0,2],[0,2]),([3,2],[3]),([4],[4]),([5,4],[4,5]),([4],[4]),([7,4,4],[4,7]),([6,8,4],[4,6,8]),([4,9],[4,9]),([10,8],[10]),([11],[11]),([12,11,11],[11,12]),([11],[11]),([14,13,11],[11,14]),([13,15,11],[11,13,15]),([11,16],[11,16]),([17,15],[17]),([18],[18]),([19,18],[18,19]),([18,20],[18,20])])
def yag.B5:List Nat:=[0,0,2,7,15,31,63,31,159,511,1023,2047,4095,8191,4095,32767,65535,131071,262143,524287,1048575,2097151]
theorem yag.tab5:rtab .any (opsOf Tryz.f3 5)=yag.T5:=by kernel_rfl
theorem yag.bits5:waitsOk yag.T5.2 yag.B5=true:=by kernel_rfl
theorem yag.calls (k:Nat)(A0:Option Addr)(c0:Nat)(l0:List Int)(r:Bool)(w:World)(cA:Kd.C (Kd.int .u8) w A0 l0.length l0)(df:l0.length≤c0)(hG:GOKE w)(h:yag.f k l0=some r) :
 Calls Tryz.prog 3 #[.slice A0 l0.length c0] w fun e w'=>e=.returned (.bool r)∧Below w.heap.size w w':=by
 have hu30:=Tryz.underlying30;have dA:=zA cA;have e6:=zA df;clear cA df;have HG:=zA hG;clear hG;have HB:=zA (Below.refl w.heap.size w);have H:=h;clear h;unfold yag.f at H;replace H:=zh H zkGgk zkGNgk;obtain⟨⟨c2b0,c2⟩,H⟩|⟨⟨c2b0,c2⟩,H⟩:=H
 ·have c2b1:decide (1048576<l0.length)=true:=decide_eq_true zY8;clear c2;obtain rfl:=zs H;go_enter Tryz.func3,Tryz.ntmps3;go_wp2;go_ret;exact⟨by first|rfl|(simp[zq17,zq18]<;>rfl)|(simp[*,zq17,zq18]<;>rfl)|(simp[*,zq17,zq18];cases bJ.toList<;>rfl),zB⟩
 have c2b1:decide (1048576<l0.length)=false:=decide_eq_false zY8;clear c2;replace H:=zM H;obtain⟨⟨aj,bT,ct,bK,cD,bU,bP,bV,aY⟩,A3,H⟩:=H;try dsimp only at H
 replace H:=zM H;obtain⟨bJ,A4,H⟩:=H;have AK:=zA H;clear H;go_enter Tryz.func3,Tryz.ntmps3;go_upto_region 5 with (first|((with_reducible refine zq3 (f:=7) rfl ?_);refine zq7 (some 11) rfl rfl Tryz.func7 zY2 rfl #[.slice A0 l0.length c0] rfl zY0 ?_;(with_reducible refine(ybb.calls k _ _ l0 aj bT ct bK cD bU bP bV aY _ ?side1 ?side2 A3.out).mono ?_);(case side1=>exact zC dA.out);(case side2=>exact e6.out);rintro e w6 ⟨RF,RG,rfl,aC,bE,hb⟩;refine⟨_,rfl,?_⟩;have bR:=zA (Kd.z9 aC (zq6 zB));have bS:=zA (Kd.z9 bE (zq6 zB));replace HB:=zA (zq1 zB hb);clear hb aC bE)|((with_reducible refine zq5 (N:=3) rfl ?_);refine zE (N:=3) (cs:=#[.int .i64 0,.int .i64 0,.string bz0,.string bz0,.int .i64 0,.string bz0,.string bz0,.slice none 0 0,.slice none 0 0]) (t:=30) ?_;intro cK hg w7 hbox hb;replace bR:=zA (Kd.z4 (zVR bR.out) hb);replace bS:=zA (Kd.z4 (zVR bS.out) hb);have am:=zA hbox;have RH:=zA (zS hg:w.heap.size≤cK);have RI:=zA (zS hg:w.heap.size≤cK);replace HB:=zA (zq1 zB hb);clear hb hbox hg;obtain⟨_,_,_,_,_,_,_,_,_⟩:=zc9 am.out;obtain⟨_,_,_,_,_,_,_,_,_⟩:=zf9 am.out;obtain⟨ee,d2,vE⟩:=Kd.z12 bR.out;subst vE;obtain⟨dS,dz,qj⟩:=Kd.z12 bS.out;subst qj)|((with_reducible refine zq3 (f:=8) rfl ?_);refine zq7 (some 13) rfl rfl Tryz.func8 zY2 rfl #[.agg #[.int .i64 aj,.int .i64 bT,.string ct,.string bK,.int .i64 cD,.string bU,.string bP,.slice ee bV.length d2,.slice dS aY.length dz]] rfl zY0 ?_;(with_reducible refine(yay.calls k aj bT ct bK cD bU bP _ _ bV _ _ aY bJ _ ?side1 ?side2 ?side3 ?side4 ?side5 A4.out).mono ?_);(case side1=>refine(Kd.z11 (e:=24) (base:=w.heap.size) (ok:=fun k_=>True) (n:=bV.length) (c:=d2) ?_).2.2;exact(by exact zr (Kd.z10 (zR9 cK (Kd.z13 bR.out am.out zY3) (.int .i64 aj) (.int .i64 bT) (.string ct) (.string bK) (.int .i64 cD) (.string bU) (.string bP) (.slice ee bV.length d2) (.slice dS aY.length dz)) (fun _ h_=>h_.1))));(case side2=>exact(Kd.z11 bR.out).2.1);(case side3=>refine(Kd.z11 (e:=9) (base:=w.heap.size) (ok:=fun k_=>True) (n:=aY.length) (c:=dz) ?_).2.2;exact(by exact zr (Kd.z10 (zR9 cK (Kd.z13 bS.out am.out zY3) (.int .i64 aj) (.int .i64 bT) (.string ct) (.string bK) (.int .i64 cD) (.string bU) (.string bP) (.slice ee bV.length d2) (.slice dS aY.length dz)) (fun _ h_=>h_.1))));(case side4=>exact(Kd.z11 bS.out).2.1);(case side5=>first|(with_reducible exact HG.out.weak)|((with_reducible repeat(first|exact HG.out.weak|apply GOK.drewN|apply GOK.drew));done)|exact GOK.below HG.out.weak zB);rintro e gK ⟨rfl,hb⟩;refine⟨_,rfl,?_⟩;replace bR:=zA (Kd.z4 (by exact zr (Kd.z10 (zR9 cK (Kd.z13 bR.out am.out zY3) (.int .i64 aj) (.int .i64 bT) (.string ct) (.string bK) (.int .i64 cD) (.string bU) (.string bP) (.slice ee bV.length d2) (.slice dS aY.length dz)) (fun _ h_=>h_.1))) hb);replace bS:=zA (Kd.z4 (by exact zr (Kd.z10 (zR9 cK (Kd.z13 bS.out am.out zY3) (.int .i64 aj) (.int .i64 bT) (.string ct) (.string bK) (.int .i64 cD) (.string bU) (.string bP) (.slice ee bV.length d2) (.slice dS aY.length dz)) (fun _ h_=>h_.1))) hb);replace am:=zA (zq2 (g:=cK) (o:=.cells #[.int .i64 aj,.int .i64 bT,.string ct,.string bK,.int .i64 cD,.string bU,.string bP,.slice ee bV.length d2,.slice dS aY.length dz] 30 (0,0)) (zG am.out) hb);replace HB:=zA (zq1 zB hb);clear hb))
 (try simp only[Act.put,zL0,zL1,zL2]);go_cut [35] (fun Oi wc=>∃(kq:Nat) (AL:Bool),Oi=.bool AL∧Aside0 (yag.j0 kq bJ AL aj bT ct bK cD bU bP bV aY=some r)∧Aside0 (kq≤k)∧Aside0 (Kd.R k24 24 wc w.heap.size (fun _=>True) (.slice ee bV.length d2) bV)∧Aside0 (Kd.R Kd.string 9 wc w.heap.size (fun _=>True) (.slice dS aY.length dz) aY)∧Aside0 (wc.heap[cK]?=some (.cells #[.int .i64 aj,.int .i64 bT,.string ct,.string bK,.int .i64 cD,.string bU,.string bP,(.slice ee bV.length d2),(.slice dS aY.length dz)] 30 (0,0)))∧Aside0 (Below w.heap.size w wc))
 case first =>
  have H:=AK.out;clear AK;replace H:=zM H;obtain⟨cN,mr,H⟩:=H;replace H:=zf H zkQNqnk zkQqn;obtain⟨⟨c13b0,c13b1,jq⟩,H⟩|⟨⟨c13b0,c13b1⟩,H⟩:=H
  ·(first|rw[c13b0]|(simp only[i64_w,i32_w];rw[c13b0])|skip);have H':=zA H;clear H;(try go_wp2);replace bR:=zA (Kd.z5 bR.out);replace bS:=zA (Kd.z5 bS.out);replace am:=zA (blk_drew am.out);replace HB:=zA (zq19 HB.out);refine start_ (n:=22) (S:=fun w'=>w'.cell? ⟨cK,0,none⟩=some (.int .i64 aj)∧w'.cell? ⟨cK,1,none⟩=some (.int .i64 bT)∧w'.cell? ⟨cK,2,none⟩=some (.string ct)∧w'.cell? ⟨cK,3,none⟩=some (.string bK)∧w'.cell? ⟨cK,4,none⟩=some (.int .i64 cD)∧w'.cell? ⟨cK,5,none⟩=some (.string bU)∧w'.cell? ⟨cK,6,none⟩=some (.string bP)∧w'.cell? ⟨cK,7,none⟩=some (.slice ee bV.length d2)∧w'.cell? ⟨cK,8,none⟩=some (.slice dS aY.length dz)) (ds:=[]) #[false,false,false,false,false,false,false,false,false,false,false,false,false,false,false,false,false,false,false,false,false,false] zY2 rfl rfl ⟨zq0 am.out 0,zq0 am.out 1,zq0 am.out 2,zq0 am.out 3,zq0 am.out 4,zq0 am.out 5,zq0 am.out 6,zq0 am.out 7,zq0 am.out 8⟩ (fun hHeld=>?_);refine with_tabW yag.tab5 yag.bits5 (fun HT_ HW_=>?_);generalize gK.drew=qq at bR bS am HB hHeld ⊢;refine pure_ (i:=0) (N:=some 14) (v:=?_) (a':=?_) #[true,false,false,false,false,false,false,false,false,false,false,false,false,false,false,false,false,false,false,false,false,false] rfl rfl (zq10 HT_.out zY2) (fun _ _ _ h=>h) (Or.inl ⟨by rfl,?_⟩) ?_ ?_;rotate_left
   ·intro w';go_simp;with_reducible rfl
   rotate_left
   ·simp only[Act.put,zL0,zL1,zL2,i64_w,i32_w];rfl
   refine take_ (i:=1) (N:=some 15) (v:=?_) (a':=?_) #[true,true,false,false,false,false,false,false,false,false,false,false,false,false,false,false,false,false,false,false,false,false] rfl rfl (take_ofW HT_.out HW_.out zY2) (fun _ _ _ h=>h) (Or.inl ⟨by rfl,?_⟩) hHeld ?_ ?_;rotate_left
   ·rintro w' ⟨s0,s1,s2,s3,s4,s5,s6,s7,s8⟩;go_simp;with_reducible rfl
   rotate_left
   ·simp only[Act.put,zL0,zL1,zL2,i64_w,i32_w];rfl
   refine one_ (i:=2) (N:=some 16) #[true,true,true,false,false,false,false,false,false,false,false,false,false,false,false,false,false,false,false,false,false,false] rfl rfl (one_of HT_.out zY2) zY3 (fun K hK=>?_);refine goes_ Tryz.func9 zY2 rfl #[.agg #[.int .i64 aj,.int .i64 bT,.string ct,.string bK,.int .i64 cD,.string bU,.string bP,.slice ee bV.length d2,.slice dS aY.length dz]] zY15 rfl rfl zY0 ?_;(with_reducible refine(ya3.calls k aj bT ct bK cD bU bP _ _ bV _ _ aY cN _ ?side1 ?side2 ?side3 ?side4 mr.out).mono ?_);(case side1=>exact zC (Kd.z11 bR.out).2.2);(case side2=>exact(Kd.z11 bR.out).2.1);(case side3=>exact zC (Kd.z11 bS.out).2.2);(case side4=>exact(Kd.z11 bS.out).2.1);rintro e fW ⟨rfl,hb⟩;refine⟨_,rfl,?_⟩;replace bR:=zA (Kd.z4 (zVR bR.out) hb);replace bS:=zA (Kd.z4 (zVR bS.out) hb);replace am:=zA (zq2 (zK am.out) hb);replace HB:=zA (zq1 zB hb);(try clear hb);(try clear hk);refine hK.out _ _ ⟨zq0 am.out 0,zq0 am.out 1,zq0 am.out 2,zq0 am.out 3,zq0 am.out 4,zq0 am.out 5,zq0 am.out 6,zq0 am.out 7,zq0 am.out 8⟩ (fun hHeld=>?_);clear hK K;refine norm_ (a':=?_) ?_ ?_;rotate_left
   ·show Act.put _ (some 16) _=_;simp only[Act.put,zL0,zL1,zL2,i64_w,i32_w];rfl
   refine pure_ (i:=3) (N:=some 17) (v:=?_) (a':=?_) #[true,true,true,true,false,false,false,false,false,false,false,false,false,false,false,false,false,false,false,false,false,false] rfl rfl (zq10 HT_.out zY2) (fun _ _ _ h=>h) (Or.inl ⟨by rfl,?_⟩) ?_ ?_;rotate_left
   ·intro w';go_simp;with_reducible rfl
   rotate_left
   ·simp only[Act.put,zL0,zL1,zL2,i64_w,i32_w];rfl
   refine pure_ (i:=4) (N:=some 18) (v:=?_) (a':=?_) #[true,true,true,true,true,false,false,false,false,false,false,false,false,false,false,false,false,false,false,false,false,false] rfl rfl (zq10 HT_.out zY2) (fun _ _ _ h=>h) (Or.inl ⟨by rfl,?_⟩) ?_ ?_;rotate_left
   ·intro w';go_simp;with_reducible rfl
   rotate_left
   ·simp only[Act.put,zL0,zL1,zL2,i64_w,i32_w];rfl
   refine pure_ (i:=5) (N:=some 19) (v:=undef) (a':=?_) #[true,true,true,true,true,true,false,false,false,false,false,false,false,false,false,false,false,false,false,false,false,false] rfl rfl (zq10 HT_.out zY2) (fun _ _ _ h=>h) (Or.inr ⟨by rfl,rfl⟩) ?_ ?_;rotate_left
   ·simp only[Act.put,zL0,zL1,zL2,i64_w,i32_w];rfl
   refine pure_ (i:=6) (N:=some 20) (v:=undef) (a':=?_) #[true,true,true,true,true,true,true,false,false,false,false,false,false,false,false,false,false,false,false,false,false,false] rfl rfl (zq10 HT_.out zY2) (fun _ _ _ h=>h) (Or.inr ⟨by rfl,rfl⟩) ?_ ?_;rotate_left
   ·simp only[Act.put,zL0,zL1,zL2,i64_w,i32_w];rfl
   refine pure_ (i:=7) (N:=some 21) (v:=undef) (a':=?_) #[true,true,true,true,true,true,true,true,false,false,false,false,false,false,false,false,false,false,false,false,false,false] rfl rfl (zq10 HT_.out zY2) (fun _ _ _ h=>h) (Or.inr ⟨by rfl,rfl⟩) ?_ ?_;rotate_left
   ·simp only[Act.put,zL0,zL1,zL2,i64_w,i32_w];rfl
   refine pure_ (i:=8) (N:=some 22) (v:=undef) (a':=?_) #[true,true,true,true,true,true,true,true,true,false,false,false,false,false,false,false,false,false,false,false,false,false] rfl rfl (zq10 HT_.out zY2) (fun _ _ _ h=>h) (Or.inr ⟨by rfl,rfl⟩) ?_ ?_;rotate_left
   ·simp only[Act.put,zL0,zL1,zL2,i64_w,i32_w];rfl
   refine pure_ (i:=9) (N:=some 23) (v:=undef) (a':=?_) #[true,true,true,true,true,true,true,true,true,true,false,false,false,false,false,false,false,false,false,false,false,false] rfl rfl (zq10 HT_.out zY2) (fun _ _ _ h=>h) (Or.inr ⟨by rfl,rfl⟩) ?_ ?_;rotate_left
   ·simp only[Act.put,zL0,zL1,zL2,i64_w,i32_w];rfl
   refine pure_ (i:=10) (N:=some 24) (v:=?_) (a':=?_) #[true,true,true,true,true,true,true,true,true,true,true,false,false,false,false,false,false,false,false,false,false,false] rfl rfl (zq10 HT_.out zY2) (fun _ _ _ h=>h) (Or.inl ⟨by rfl,?_⟩) ?_ ?_;rotate_left
   ·intro w';go_simp;with_reducible rfl
   rotate_left
   ·simp only[Act.put,zL0,zL1,zL2,i64_w,i32_w];rfl
   refine pure_ (i:=11) (N:=some 25) (v:=?_) (a':=?_) #[true,true,true,true,true,true,true,true,true,true,true,true,false,false,false,false,false,false,false,false,false,false] rfl rfl (zq10 HT_.out zY2) (fun _ _ _ h=>h) (Or.inl ⟨by rfl,?_⟩) ?_ ?_;rotate_left
   ·intro w';go_simp;with_reducible rfl
   rotate_left
   ·simp only[Act.put,zL0,zL1,zL2,i64_w,i32_w];rfl
   refine pure_ (i:=12) (N:=some 26) (v:=undef) (a':=?_) #[true,true,true,true,true,true,true,true,true,true,true,true,true,false,false,false,false,false,false,false,false,false] rfl rfl (zq10 HT_.out zY2) (fun _ _ _ h=>h) (Or.inr ⟨by rfl,rfl⟩) ?_ ?_;rotate_left
   ·simp only[Act.put,zL0,zL1,zL2,i64_w,i32_w];rfl
   refine pure_ (i:=13) (N:=some 27) (v:=undef) (a':=?_) #[true,true,true,true,true,true,true,true,true,true,true,true,true,true,false,false,false,false,false,false,false,false] rfl rfl (zq10 HT_.out zY2) (fun _ _ _ h=>h) (Or.inr ⟨by rfl,rfl⟩) ?_ ?_;rotate_left
   ·simp only[Act.put,zL0,zL1,zL2,i64_w,i32_w];rfl
   refine pure_ (i:=14) (N:=some 28) (v:=undef) (a':=?_) #[true,true,true,true,true,true,true,true,true,true,true,true,true,true,true,false,false,false,false,false,false,false] rfl rfl (zq10 HT_.out zY2) (fun _ _ _ h=>h) (Or.inr ⟨by rfl,rfl⟩) ?_ ?_;rotate_left
   ·simp only[Act.put,zL0,zL1,zL2,i64_w,i32_w];rfl
   refine pure_ (i:=15) (N:=some 29) (v:=undef) (a':=?_) #[true,true,true,true,true,true,true,true,true,true,true,true,true,true,true,true,false,false,false,false,false,false] rfl rfl (zq10 HT_.out zY2) (fun _ _ _ h=>h) (Or.inr ⟨by rfl,rfl⟩) ?_ ?_;rotate_left
   ·simp only[Act.put,zL0,zL1,zL2,i64_w,i32_w];rfl
   refine pure_ (i:=16) (N:=some 30) (v:=undef) (a':=?_) #[true,true,true,true,true,true,true,true,true,true,true,true,true,true,true,true,true,false,false,false,false,false] rfl rfl (zq10 HT_.out zY2) (fun _ _ _ h=>h) (Or.inr ⟨by rfl,rfl⟩) ?_ ?_;rotate_left
   ·simp only[Act.put,zL0,zL1,zL2,i64_w,i32_w];rfl
   refine pure_ (i:=17) (N:=some 31) (v:=?_) (a':=?_) #[true,true,true,true,true,true,true,true,true,true,true,true,true,true,true,true,true,true,false,false,false,false] rfl rfl (zq10 HT_.out zY2) (fun _ _ _ h=>h) (Or.inl ⟨by rfl,?_⟩) ?_ ?_;rotate_left
   ·intro w';go_simp;with_reducible rfl
   rotate_left
   ·simp only[Act.put,zL0,zL1,zL2,i64_w,i32_w];rfl
   refine pure_ (i:=18) (N:=some 32) (v:=?_) (a':=?_) #[true,true,true,true,true,true,true,true,true,true,true,true,true,true,true,true,true,true,true,false,false,false] rfl rfl (zq10 HT_.out zY2) (fun _ _ _ h=>h) (Or.inl ⟨by rfl,?_⟩) ?_ ?_;rotate_left
   ·intro w';go_simp;with_reducible rfl
   rotate_left
   ·simp only[Act.put,zL0,zL1,zL2,i64_w,i32_w];rfl
   refine pure_ (i:=19) (N:=some 33) (v:=undef) (a':=?_) #[true,true,true,true,true,true,true,true,true,true,true,true,true,true,true,true,true,true,true,true,false,false] rfl rfl (zq10 HT_.out zY2) (fun _ _ _ h=>h) (Or.inr ⟨by rfl,rfl⟩) ?_ ?_;rotate_left
   ·simp only[Act.put,zL0,zL1,zL2,i64_w,i32_w];rfl
   refine pure_ (i:=20) (N:=some 34) (v:=undef) (a':=?_) #[true,true,true,true,true,true,true,true,true,true,true,true,true,true,true,true,true,true,true,true,true,false] rfl rfl (zq10 HT_.out zY2) (fun _ _ _ h=>h) (Or.inr ⟨by rfl,rfl⟩) ?_ ?_;rotate_left
   ·simp only[Act.put,zL0,zL1,zL2,i64_w,i32_w];rfl
   refine pure_ (i:=21) (N:=some 35) (v:=?_) (a':=?_) #[true,true,true,true,true,true,true,true,true,true,true,true,true,true,true,true,true,true,true,true,true,true] rfl rfl (zq10 HT_.out zY2) (fun _ _ _ h=>h) (Or.inl ⟨by rfl,?_⟩) ?_ ?_;rotate_left
   ·intro w';go_simp;with_reducible rfl
   rotate_left
   ·simp only[Act.put,zL0,zL1,zL2,i64_w,i32_w];rfl
   refine done_ (done_of HT_.out zY2) ?_;(try go_wp2);go_meet;case rel=>exact⟨_,(true),zY4,H',⟨by first|omega|exact Nat.le_refl _⟩,⟨zVR bR.out⟩,⟨zVR bS.out⟩,⟨zK am.out⟩,⟨zB⟩⟩
  (first|rw[c13b0]|(simp only[i64_w,i32_w];rw[c13b0])|skip);replace H:=zM H;obtain⟨cu,o6,H⟩:=H;replace H:=zh H zd6 zd6;obtain⟨gX,H⟩|⟨gX,H⟩:=H
  ·have c15b0:((bJ.toList != ([]:List UInt8)) != cu)=true:=gX;(try(have c15b5:((!bJ.toList.isEmpty)==cu)=false:=by revert gX;clear H;cases bJ.toList<;>cases cu<;>simp));(try(have c15b1:decide ((bJ.toList != ([]:List UInt8))=cu)=false:=by simpa using gX));(try(have c15b2:((bJ.toList != ([]:List UInt8))==cu)=false:=by simpa using gX));(try(have c15b3:¬ ((bJ.toList != ([]:List UInt8))=cu):=by simpa using gX));clear gX;have H':=zA H;clear H;(try go_wp2);replace bR:=zA (Kd.z5 bR.out);replace bS:=zA (Kd.z5 bS.out);replace am:=zA (blk_drew am.out);replace HB:=zA (zq19 HB.out);refine start_ (n:=22) (S:=fun w'=>w'.cell? ⟨cK,0,none⟩=some (.int .i64 aj)∧w'.cell? ⟨cK,1,none⟩=some (.int .i64 bT)∧w'.cell? ⟨cK,2,none⟩=some (.string ct)∧w'.cell? ⟨cK,3,none⟩=some (.string bK)∧w'.cell? ⟨cK,4,none⟩=some (.int .i64 cD)∧w'.cell? ⟨cK,5,none⟩=some (.string bU)∧w'.cell? ⟨cK,6,none⟩=some (.string bP)∧w'.cell? ⟨cK,7,none⟩=some (.slice ee bV.length d2)∧w'.cell? ⟨cK,8,none⟩=some (.slice dS aY.length dz)) (ds:=[]) #[false,false,false,false,false,false,false,false,false,false,false,false,false,false,false,false,false,false,false,false,false,false] zY2 rfl rfl ⟨zq0 am.out 0,zq0 am.out 1,zq0 am.out 2,zq0 am.out 3,zq0 am.out 4,zq0 am.out 5,zq0 am.out 6,zq0 am.out 7,zq0 am.out 8⟩ (fun hHeld=>?_);refine with_tabW yag.tab5 yag.bits5 (fun HT_ HW_=>?_);generalize gK.drew=o3 at bR bS am HB hHeld ⊢;refine pure_ (i:=0) (N:=some 14) (v:=?_) (a':=?_) #[true,false,false,false,false,false,false,false,false,false,false,false,false,false,false,false,false,false,false,false,false,false] rfl rfl (zq10 HT_.out zY2) (fun _ _ _ h=>h) (Or.inl ⟨by rfl,?_⟩) ?_ ?_;rotate_left
   ·intro w';go_simp;with_reducible rfl
   rotate_left
   ·simp only[Act.put,zL0,zL1,zL2,i64_w,i32_w];rfl
   refine take_ (i:=1) (N:=some 15) (v:=?_) (a':=?_) #[true,true,false,false,false,false,false,false,false,false,false,false,false,false,false,false,false,false,false,false,false,false] rfl rfl (take_ofW HT_.out HW_.out zY2) (fun _ _ _ h=>h) (Or.inl ⟨by rfl,?_⟩) hHeld ?_ ?_;rotate_left
   ·rintro w' ⟨s0,s1,s2,s3,s4,s5,s6,s7,s8⟩;go_simp;with_reducible rfl
   rotate_left
   ·simp only[Act.put,zL0,zL1,zL2,i64_w,i32_w];rfl
   refine one_ (i:=2) (N:=some 16) #[true,true,true,false,false,false,false,false,false,false,false,false,false,false,false,false,false,false,false,false,false,false] rfl rfl (one_of HT_.out zY2) zY3 (fun K hK=>?_);refine goes_ Tryz.func9 zY2 rfl #[.agg #[.int .i64 aj,.int .i64 bT,.string ct,.string bK,.int .i64 cD,.string bU,.string bP,.slice ee bV.length d2,.slice dS aY.length dz]] zY15 rfl rfl zY0 ?_;(with_reducible refine(ya3.calls k aj bT ct bK cD bU bP _ _ bV _ _ aY cN _ ?side1 ?side2 ?side3 ?side4 mr.out).mono ?_);(case side1=>exact zC (Kd.z11 bR.out).2.2);(case side2=>exact(Kd.z11 bR.out).2.1);(case side3=>exact zC (Kd.z11 bS.out).2.2);(case side4=>exact(Kd.z11 bS.out).2.1);rintro e o4 ⟨rfl,hb⟩;refine⟨_,rfl,?_⟩;replace bR:=zA (Kd.z4 (zVR bR.out) hb);replace bS:=zA (Kd.z4 (zVR bS.out) hb);replace am:=zA (zq2 (zK am.out) hb);replace HB:=zA (zq1 zB hb);(try clear hb);(try clear hk);refine hK.out _ _ ⟨zq0 am.out 0,zq0 am.out 1,zq0 am.out 2,zq0 am.out 3,zq0 am.out 4,zq0 am.out 5,zq0 am.out 6,zq0 am.out 7,zq0 am.out 8⟩ (fun hHeld=>?_);clear hK K;refine norm_ (a':=?_) ?_ ?_;rotate_left
   ·show Act.put _ (some 16) _=_;simp only[Act.put,zL0,zL1,zL2,i64_w,i32_w];rfl
   refine pure_ (i:=3) (N:=some 17) (v:=?_) (a':=?_) #[true,true,true,true,false,false,false,false,false,false,false,false,false,false,false,false,false,false,false,false,false,false] rfl rfl (zq10 HT_.out zY2) (fun _ _ _ h=>h) (Or.inl ⟨by rfl,?_⟩) ?_ ?_;rotate_left
   ·intro w';go_simp;with_reducible rfl
   rotate_left
   ·simp only[Act.put,zL0,zL1,zL2,i64_w,i32_w];rfl
   refine pure_ (i:=4) (N:=some 18) (v:=?_) (a':=?_) #[true,true,true,true,true,false,false,false,false,false,false,false,false,false,false,false,false,false,false,false,false,false] rfl rfl (zq10 HT_.out zY2) (fun _ _ _ h=>h) (Or.inl ⟨by rfl,?_⟩) ?_ ?_;rotate_left
   ·intro w';go_simp;with_reducible rfl
   rotate_left
   ·simp only[Act.put,zL0,zL1,zL2,i64_w,i32_w];rfl
   refine pure_ (i:=5) (N:=some 19) (v:=?_) (a':=?_) #[true,true,true,true,true,true,false,false,false,false,false,false,false,false,false,false,false,false,false,false,false,false] rfl rfl (zq10 HT_.out zY2) (fun _ _ _ h=>h) (Or.inl ⟨by rfl,?_⟩) ?_ ?_;rotate_left
   ·intro w';go_simp;with_reducible rfl
   rotate_left
   ·simp only[Act.put,zL0,zL1,zL2,i64_w,i32_w];rfl
   refine pure_ (i:=6) (N:=some 20) (v:=?_) (a':=?_) #[true,true,true,true,true,true,true,false,false,false,false,false,false,false,false,false,false,false,false,false,false,false] rfl rfl (zq10 HT_.out zY2) (fun _ _ _ h=>h) (Or.inl ⟨by rfl,?_⟩) ?_ ?_;rotate_left
   ·intro w';go_simp;with_reducible rfl
   rotate_left
   ·simp only[Act.put,zL0,zL1,zL2,i64_w,i32_w];rfl
   refine take_ (i:=7) (N:=some 21) (v:=?_) (a':=?_) #[true,true,true,true,true,true,true,true,false,false,false,false,false,false,false,false,false,false,false,false,false,false] rfl rfl (take_ofW HT_.out HW_.out zY2) (fun _ _ _ h=>h) (Or.inl ⟨by rfl,?_⟩) hHeld ?_ ?_;rotate_left
   ·rintro w' ⟨s0,s1,s2,s3,s4,s5,s6,s7,s8⟩;go_simp;with_reducible rfl
   rotate_left
   ·simp only[Act.put,zL0,zL1,zL2,i64_w,i32_w];rfl
   refine one_ (i:=8) (N:=some 22) #[true,true,true,true,true,true,true,true,true,false,false,false,false,false,false,false,false,false,false,false,false,false] rfl rfl (one_of HT_.out zY2) zY3 (fun K hK=>?_);refine goes_ Tryz.func10 zY2 rfl #[.agg #[.int .i64 aj,.int .i64 bT,.string ct,.string bK,.int .i64 cD,.string bU,.string bP,.slice ee bV.length d2,.slice dS aY.length dz]] zY15 rfl rfl zY0 ?_;(with_reducible refine(yam.calls k aj bT ct bK cD bU bP _ _ bV _ _ aY _ _ ?side1 ?side2 ?side3 ?side4 ?side5 o6.out).mono ?_);(case side1=>exact zC (Kd.z11 bR.out).2.2);(case side2=>exact(Kd.z11 bR.out).2.1);(case side3=>exact zC (Kd.z11 bS.out).2.2);(case side4=>exact(Kd.z11 bS.out).2.1);(case side5=>first|(with_reducible exact HG.out.weak)|((with_reducible repeat(first|exact HG.out.weak|apply GOK.drewN|apply GOK.drew));done)|exact GOK.below HG.out.weak zB);rintro e jS ⟨rfl,hb⟩;refine⟨_,rfl,?_⟩;replace bR:=zA (Kd.z4 (zVR bR.out) hb);replace bS:=zA (Kd.z4 (zVR bS.out) hb);replace am:=zA (zq2 (zK am.out) hb);replace HB:=zA (zq1 zB hb);(try clear hb);(try clear hk);refine hK.out _ _ ⟨zq0 am.out 0,zq0 am.out 1,zq0 am.out 2,zq0 am.out 3,zq0 am.out 4,zq0 am.out 5,zq0 am.out 6,zq0 am.out 7,zq0 am.out 8⟩ (fun hHeld=>?_);clear hK K;refine norm_ (a':=?_) ?_ ?_;rotate_left
   ·show Act.put _ (some 22) _=_;simp only[Act.put,zL0,zL1,zL2,i64_w,i32_w];rfl
   refine pure_ (i:=9) (N:=some 23) (v:=?_) (a':=?_) #[true,true,true,true,true,true,true,true,true,true,false,false,false,false,false,false,false,false,false,false,false,false] rfl rfl (zq10 HT_.out zY2) (fun _ _ _ h=>h) (Or.inl ⟨by rfl,?_⟩) ?_ ?_;rotate_left
   ·intro w';go_simp;with_reducible rfl
   rotate_left
   ·simp only[Act.put,zL0,zL1,zL2,i64_w,i32_w];rfl
   refine pure_ (i:=10) (N:=some 24) (v:=?_) (a':=?_) #[true,true,true,true,true,true,true,true,true,true,true,false,false,false,false,false,false,false,false,false,false,false] rfl rfl (zq10 HT_.out zY2) (fun _ _ _ h=>h) (Or.inl ⟨by rfl,?_⟩) ?_ ?_;rotate_left
   ·intro w';go_simp;with_reducible rfl
   rotate_left
   ·simp only[Act.put,zL0,zL1,zL2,i64_w,i32_w];rfl
   refine pure_ (i:=11) (N:=some 25) (v:=?_) (a':=?_) #[true,true,true,true,true,true,true,true,true,true,true,true,false,false,false,false,false,false,false,false,false,false] rfl rfl (zq10 HT_.out zY2) (fun _ _ _ h=>h) (Or.inl ⟨by rfl,?_⟩) ?_ ?_;rotate_left
   ·intro w';go_simp;with_reducible rfl
   rotate_left
   ·simp only[Act.put,zL0,zL1,zL2,i64_w,i32_w];rfl
   refine pure_ (i:=12) (N:=some 26) (v:=undef) (a':=?_) #[true,true,true,true,true,true,true,true,true,true,true,true,true,false,false,false,false,false,false,false,false,false] rfl rfl (zq10 HT_.out zY2) (fun _ _ _ h=>h) (Or.inr ⟨by rfl,rfl⟩) ?_ ?_;rotate_left
   ·simp only[Act.put,zL0,zL1,zL2,i64_w,i32_w];rfl
   refine pure_ (i:=13) (N:=some 27) (v:=undef) (a':=?_) #[true,true,true,true,true,true,true,true,true,true,true,true,true,true,false,false,false,false,false,false,false,false] rfl rfl (zq10 HT_.out zY2) (fun _ _ _ h=>h) (Or.inr ⟨by rfl,rfl⟩) ?_ ?_;rotate_left
   ·simp only[Act.put,zL0,zL1,zL2,i64_w,i32_w];rfl
   refine pure_ (i:=14) (N:=some 28) (v:=undef) (a':=?_) #[true,true,true,true,true,true,true,true,true,true,true,true,true,true,true,false,false,false,false,false,false,false] rfl rfl (zq10 HT_.out zY2) (fun _ _ _ h=>h) (Or.inr ⟨by rfl,rfl⟩) ?_ ?_;rotate_left
   ·simp only[Act.put,zL0,zL1,zL2,i64_w,i32_w];rfl
   refine pure_ (i:=15) (N:=some 29) (v:=undef) (a':=?_) #[true,true,true,true,true,true,true,true,true,true,true,true,true,true,true,true,false,false,false,false,false,false] rfl rfl (zq10 HT_.out zY2) (fun _ _ _ h=>h) (Or.inr ⟨by rfl,rfl⟩) ?_ ?_;rotate_left
   ·simp only[Act.put,zL0,zL1,zL2,i64_w,i32_w];rfl
   refine pure_ (i:=16) (N:=some 30) (v:=undef) (a':=?_) #[true,true,true,true,true,true,true,true,true,true,true,true,true,true,true,true,true,false,false,false,false,false] rfl rfl (zq10 HT_.out zY2) (fun _ _ _ h=>h) (Or.inr ⟨by rfl,rfl⟩) ?_ ?_;rotate_left
   ·simp only[Act.put,zL0,zL1,zL2,i64_w,i32_w];rfl
   refine pure_ (i:=17) (N:=some 31) (v:=?_) (a':=?_) #[true,true,true,true,true,true,true,true,true,true,true,true,true,true,true,true,true,true,false,false,false,false] rfl rfl (zq10 HT_.out zY2) (fun _ _ _ h=>h) (Or.inl ⟨by rfl,?_⟩) ?_ ?_;rotate_left
   ·intro w';go_simp;with_reducible rfl
   rotate_left
   ·simp only[Act.put,zL0,zL1,zL2,i64_w,i32_w];rfl
   refine pure_ (i:=18) (N:=some 32) (v:=?_) (a':=?_) #[true,true,true,true,true,true,true,true,true,true,true,true,true,true,true,true,true,true,true,false,false,false] rfl rfl (zq10 HT_.out zY2) (fun _ _ _ h=>h) (Or.inl ⟨by rfl,?_⟩) ?_ ?_;rotate_left
   ·intro w';go_simp;with_reducible rfl
   rotate_left
   ·simp only[Act.put,zL0,zL1,zL2,i64_w,i32_w];rfl
   refine pure_ (i:=19) (N:=some 33) (v:=undef) (a':=?_) #[true,true,true,true,true,true,true,true,true,true,true,true,true,true,true,true,true,true,true,true,false,false] rfl rfl (zq10 HT_.out zY2) (fun _ _ _ h=>h) (Or.inr ⟨by rfl,rfl⟩) ?_ ?_;rotate_left
   ·simp only[Act.put,zL0,zL1,zL2,i64_w,i32_w];rfl
   refine pure_ (i:=20) (N:=some 34) (v:=undef) (a':=?_) #[true,true,true,true,true,true,true,true,true,true,true,true,true,true,true,true,true,true,true,true,true,false] rfl rfl (zq10 HT_.out zY2) (fun _ _ _ h=>h) (Or.inr ⟨by rfl,rfl⟩) ?_ ?_;rotate_left
   ·simp only[Act.put,zL0,zL1,zL2,i64_w,i32_w];rfl
   refine pure_ (i:=21) (N:=some 35) (v:=?_) (a':=?_) #[true,true,true,true,true,true,true,true,true,true,true,true,true,true,true,true,true,true,true,true,true,true] rfl rfl (zq10 HT_.out zY2) (fun _ _ _ h=>h) (Or.inl ⟨by rfl,?_⟩) ?_ ?_;rotate_left
   ·intro w';go_simp;with_reducible rfl
   rotate_left
   ·simp only[Act.put,zL0,zL1,zL2,i64_w,i32_w];rfl
   refine done_ (done_of HT_.out zY2) ?_;(try go_wp2);go_meet;case rel=>exact⟨_,(true),zY4,H',⟨by first|omega|exact Nat.le_refl _⟩,⟨zVR bR.out⟩,⟨zVR bS.out⟩,⟨zK am.out⟩,⟨zB⟩⟩
  (have c15b0:((bJ.toList != ([]:List UInt8)) != cu)=false:=by simpa using gX);(try(have c15b5:((!bJ.toList.isEmpty)==cu)=true:=by revert gX;clear H;cases bJ.toList<;>cases cu<;>simp));(try(have c15b1:decide ((bJ.toList != ([]:List UInt8))=cu)=true:=by simpa using gX));(try(have c15b2:((bJ.toList != ([]:List UInt8))==cu)=true:=by simpa using gX));clear gX;replace H:=zM H;obtain⟨bG,eg,H⟩:=H;(try(obtain rfl:bG=cu:=Option.some.inj (eg.out.symm.trans o6.out)));replace H:=zM H;obtain⟨hU,ER,H⟩:=H;replace H:=zh H zd6 zd6;obtain⟨gZ,H⟩|⟨gZ,H⟩:=H
  ·have c21b0:(bG != hU)=true:=gZ;(try(have c21b1:decide (bG=hU)=false:=by simpa using gZ));(try(have c21b2:(bG==hU)=false:=by simpa using gZ));(try(have c21b3:¬ (bG=hU):=by simpa using gZ));clear gZ;have H':=zA H;clear H;(try go_wp2);replace bR:=zA (Kd.z5 bR.out);replace bS:=zA (Kd.z5 bS.out);replace am:=zA (blk_drew am.out);replace HB:=zA (zq19 HB.out);refine start_ (n:=22) (S:=fun w'=>w'.cell? ⟨cK,0,none⟩=some (.int .i64 aj)∧w'.cell? ⟨cK,1,none⟩=some (.int .i64 bT)∧w'.cell? ⟨cK,2,none⟩=some (.string ct)∧w'.cell? ⟨cK,3,none⟩=some (.string bK)∧w'.cell? ⟨cK,4,none⟩=some (.int .i64 cD)∧w'.cell? ⟨cK,5,none⟩=some (.string bU)∧w'.cell? ⟨cK,6,none⟩=some (.string bP)∧w'.cell? ⟨cK,7,none⟩=some (.slice ee bV.length d2)∧w'.cell? ⟨cK,8,none⟩=some (.slice dS aY.length dz)) (ds:=[]) #[false,false,false,false,false,false,false,false,false,false,false,false,false,false,false,false,false,false,false,false,false,false] zY2 rfl rfl ⟨zq0 am.out 0,zq0 am.out 1,zq0 am.out 2,zq0 am.out 3,zq0 am.out 4,zq0 am.out 5,zq0 am.out 6,zq0 am.out 7,zq0 am.out 8⟩ (fun hHeld=>?_);refine with_tabW yag.tab5 yag.bits5 (fun HT_ HW_=>?_);generalize gK.drew=sx at bR bS am HB hHeld ⊢;refine pure_ (i:=0) (N:=some 14) (v:=?_) (a':=?_) #[true,false,false,false,false,false,false,false,false,false,false,false,false,false,false,false,false,false,false,false,false,false] rfl rfl (zq10 HT_.out zY2) (fun _ _ _ h=>h) (Or.inl ⟨by rfl,?_⟩) ?_ ?_;rotate_left
   ·intro w';go_simp;with_reducible rfl
   rotate_left
   ·simp only[Act.put,zL0,zL1,zL2,i64_w,i32_w];rfl
   refine take_ (i:=1) (N:=some 15) (v:=?_) (a':=?_) #[true,true,false,false,false,false,false,false,false,false,false,false,false,false,false,false,false,false,false,false,false,false] rfl rfl (take_ofW HT_.out HW_.out zY2) (fun _ _ _ h=>h) (Or.inl ⟨by rfl,?_⟩) hHeld ?_ ?_;rotate_left
   ·rintro w' ⟨s0,s1,s2,s3,s4,s5,s6,s7,s8⟩;go_simp;with_reducible rfl
   rotate_left
   ·simp only[Act.put,zL0,zL1,zL2,i64_w,i32_w];rfl
   refine one_ (i:=2) (N:=some 16) #[true,true,true,false,false,false,false,false,false,false,false,false,false,false,false,false,false,false,false,false,false,false] rfl rfl (one_of HT_.out zY2) zY3 (fun K hK=>?_);refine goes_ Tryz.func9 zY2 rfl #[.agg #[.int .i64 aj,.int .i64 bT,.string ct,.string bK,.int .i64 cD,.string bU,.string bP,.slice ee bV.length d2,.slice dS aY.length dz]] zY15 rfl rfl zY0 ?_;(with_reducible refine(ya3.calls k aj bT ct bK cD bU bP _ _ bV _ _ aY cN _ ?side1 ?side2 ?side3 ?side4 mr.out).mono ?_);(case side1=>exact zC (Kd.z11 bR.out).2.2);(case side2=>exact(Kd.z11 bR.out).2.1);(case side3=>exact zC (Kd.z11 bS.out).2.2);(case side4=>exact(Kd.z11 bS.out).2.1);rintro e la ⟨rfl,hb⟩;refine⟨_,rfl,?_⟩;replace bR:=zA (Kd.z4 (zVR bR.out) hb);replace bS:=zA (Kd.z4 (zVR bS.out) hb);replace am:=zA (zq2 (zK am.out) hb);replace HB:=zA (zq1 zB hb);(try clear hb);(try clear hk);refine hK.out _ _ ⟨zq0 am.out 0,zq0 am.out 1,zq0 am.out 2,zq0 am.out 3,zq0 am.out 4,zq0 am.out 5,zq0 am.out 6,zq0 am.out 7,zq0 am.out 8⟩ (fun hHeld=>?_);clear hK K;refine norm_ (a':=?_) ?_ ?_;rotate_left
   ·show Act.put _ (some 16) _=_;simp only[Act.put,zL0,zL1,zL2,i64_w,i32_w];rfl
   refine pure_ (i:=3) (N:=some 17) (v:=?_) (a':=?_) #[true,true,true,true,false,false,false,false,false,false,false,false,false,false,false,false,false,false,false,false,false,false] rfl rfl (zq10 HT_.out zY2) (fun _ _ _ h=>h) (Or.inl ⟨by rfl,?_⟩) ?_ ?_;rotate_left
   ·intro w';go_simp;with_reducible rfl
   rotate_left
   ·simp only[Act.put,zL0,zL1,zL2,i64_w,i32_w];rfl
   refine pure_ (i:=4) (N:=some 18) (v:=?_) (a':=?_) #[true,true,true,true,true,false,false,false,false,false,false,false,false,false,false,false,false,false,false,false,false,false] rfl rfl (zq10 HT_.out zY2) (fun _ _ _ h=>h) (Or.inl ⟨by rfl,?_⟩) ?_ ?_;rotate_left
   ·intro w';go_simp;with_reducible rfl
   rotate_left
   ·simp only[Act.put,zL0,zL1,zL2,i64_w,i32_w];rfl
   refine pure_ (i:=5) (N:=some 19) (v:=?_) (a':=?_) #[true,true,true,true,true,true,false,false,false,false,false,false,false,false,false,false,false,false,false,false,false,false] rfl rfl (zq10 HT_.out zY2) (fun _ _ _ h=>h) (Or.inl ⟨by rfl,?_⟩) ?_ ?_;rotate_left
   ·intro w';go_simp;with_reducible rfl
   rotate_left
   ·simp only[Act.put,zL0,zL1,zL2,i64_w,i32_w];rfl
   refine pure_ (i:=6) (N:=some 20) (v:=?_) (a':=?_) #[true,true,true,true,true,true,true,false,false,false,false,false,false,false,false,false,false,false,false,false,false,false] rfl rfl (zq10 HT_.out zY2) (fun _ _ _ h=>h) (Or.inl ⟨by rfl,?_⟩) ?_ ?_;rotate_left
   ·intro w';go_simp;with_reducible rfl
   rotate_left
   ·simp only[Act.put,zL0,zL1,zL2,i64_w,i32_w];rfl
   refine take_ (i:=7) (N:=some 21) (v:=?_) (a':=?_) #[true,true,true,true,true,true,true,true,false,false,false,false,false,false,false,false,false,false,false,false,false,false] rfl rfl (take_ofW HT_.out HW_.out zY2) (fun _ _ _ h=>h) (Or.inl ⟨by rfl,?_⟩) hHeld ?_ ?_;rotate_left
   ·rintro w' ⟨s0,s1,s2,s3,s4,s5,s6,s7,s8⟩;go_simp;with_reducible rfl
   rotate_left
   ·simp only[Act.put,zL0,zL1,zL2,i64_w,i32_w];rfl
   refine one_ (i:=8) (N:=some 22) #[true,true,true,true,true,true,true,true,true,false,false,false,false,false,false,false,false,false,false,false,false,false] rfl rfl (one_of HT_.out zY2) zY3 (fun K hK=>?_);refine goes_ Tryz.func10 zY2 rfl #[.agg #[.int .i64 aj,.int .i64 bT,.string ct,.string bK,.int .i64 cD,.string bU,.string bP,.slice ee bV.length d2,.slice dS aY.length dz]] zY15 rfl rfl zY0 ?_;(with_reducible refine(yam.calls k aj bT ct bK cD bU bP _ _ bV _ _ aY _ _ ?side1 ?side2 ?side3 ?side4 ?side5 o6.out).mono ?_);(case side1=>exact zC (Kd.z11 bR.out).2.2);(case side2=>exact(Kd.z11 bR.out).2.1);(case side3=>exact zC (Kd.z11 bS.out).2.2);(case side4=>exact(Kd.z11 bS.out).2.1);(case side5=>first|(with_reducible exact HG.out.weak)|((with_reducible repeat(first|exact HG.out.weak|apply GOK.drewN|apply GOK.drew));done)|exact GOK.below HG.out.weak zB);rintro e pa ⟨rfl,hb⟩;refine⟨_,rfl,?_⟩;replace bR:=zA (Kd.z4 (zVR bR.out) hb);replace bS:=zA (Kd.z4 (zVR bS.out) hb);replace am:=zA (zq2 (zK am.out) hb);replace HB:=zA (zq1 zB hb);(try clear hb);(try clear hk);refine hK.out _ _ ⟨zq0 am.out 0,zq0 am.out 1,zq0 am.out 2,zq0 am.out 3,zq0 am.out 4,zq0 am.out 5,zq0 am.out 6,zq0 am.out 7,zq0 am.out 8⟩ (fun hHeld=>?_);clear hK K;refine norm_ (a':=?_) ?_ ?_;rotate_left
   ·show Act.put _ (some 22) _=_;simp only[Act.put,zL0,zL1,zL2,i64_w,i32_w];rfl
   refine pure_ (i:=9) (N:=some 23) (v:=?_) (a':=?_) #[true,true,true,true,true,true,true,true,true,true,false,false,false,false,false,false,false,false,false,false,false,false] rfl rfl (zq10 HT_.out zY2) (fun _ _ _ h=>h) (Or.inl ⟨by rfl,?_⟩) ?_ ?_;rotate_left
   ·intro w';go_simp;with_reducible rfl
   rotate_left
   ·simp only[Act.put,zL0,zL1,zL2,i64_w,i32_w];rfl
   refine pure_ (i:=10) (N:=some 24) (v:=?_) (a':=?_) #[true,true,true,true,true,true,true,true,true,true,true,false,false,false,false,false,false,false,false,false,false,false] rfl rfl (zq10 HT_.out zY2) (fun _ _ _ h=>h) (Or.inl ⟨by rfl,?_⟩) ?_ ?_;rotate_left
   ·intro w';go_simp;with_reducible rfl
   rotate_left
   ·simp only[Act.put,zL0,zL1,zL2,i64_w,i32_w];rfl
   refine pure_ (i:=11) (N:=some 25) (v:=?_) (a':=?_) #[true,true,true,true,true,true,true,true,true,true,true,true,false,false,false,false,false,false,false,false,false,false] rfl rfl (zq10 HT_.out zY2) (fun _ _ _ h=>h) (Or.inl ⟨by rfl,?_⟩) ?_ ?_;rotate_left
   ·intro w';go_simp;with_reducible rfl
   rotate_left
   ·simp only[Act.put,zL0,zL1,zL2,i64_w,i32_w];rfl
   refine take_ (i:=12) (N:=some 26) (v:=?_) (a':=?_) #[true,true,true,true,true,true,true,true,true,true,true,true,true,false,false,false,false,false,false,false,false,false] rfl rfl (take_ofW HT_.out HW_.out zY2) (fun _ _ _ h=>h) (Or.inl ⟨by rfl,?_⟩) hHeld ?_ ?_;rotate_left
   ·rintro w' ⟨s0,s1,s2,s3,s4,s5,s6,s7,s8⟩;go_simp;with_reducible rfl
   rotate_left
   ·simp only[Act.put,zL0,zL1,zL2,i64_w,i32_w];rfl
   refine take_ (i:=14) (N:=some 28) (v:=?_) (a':=?_) #[true,true,true,true,true,true,true,true,true,true,true,true,true,false,true,false,false,false,false,false,false,false] rfl rfl (take_ofW HT_.out HW_.out zY2) (fun _ _ _ h=>h) (Or.inl ⟨by rfl,?_⟩) hHeld ?_ ?_;rotate_left
   ·rintro w' ⟨s0,s1,s2,s3,s4,s5,s6,s7,s8⟩;go_simp;with_reducible rfl
   rotate_left
   ·simp only[Act.put,zL0,zL1,zL2,i64_w,i32_w];rfl
   refine one_ (i:=13) (N:=some 27) #[true,true,true,true,true,true,true,true,true,true,true,true,true,true,true,false,false,false,false,false,false,false] rfl rfl (one_of HT_.out zY2) zY3 (fun K hK=>?_);refine goes_ Tryz.func10 zY2 rfl #[.agg #[.int .i64 aj,.int .i64 bT,.string ct,.string bK,.int .i64 cD,.string bU,.string bP,.slice ee bV.length d2,.slice dS aY.length dz]] zY15 rfl rfl zY0 ?_;(with_reducible refine(yam.calls k aj bT ct bK cD bU bP _ _ bV _ _ aY _ _ ?side1 ?side2 ?side3 ?side4 ?side5 eg.out).mono ?_);(case side1=>exact zC (Kd.z11 bR.out).2.2);(case side2=>exact(Kd.z11 bR.out).2.1);(case side3=>exact zC (Kd.z11 bS.out).2.2);(case side4=>exact(Kd.z11 bS.out).2.1);(case side5=>first|(with_reducible exact HG.out.weak)|((with_reducible repeat(first|exact HG.out.weak|apply GOK.drewN|apply GOK.drew));done)|exact GOK.below HG.out.weak zB);rintro e kz ⟨rfl,hb⟩;refine⟨_,rfl,?_⟩;replace bR:=zA (Kd.z4 (zVR bR.out) hb);replace bS:=zA (Kd.z4 (zVR bS.out) hb);replace am:=zA (zq2 (zK am.out) hb);replace HB:=zA (zq1 zB hb);(try clear hb);(try clear hk);refine hK.out _ _ ⟨zq0 am.out 0,zq0 am.out 1,zq0 am.out 2,zq0 am.out 3,zq0 am.out 4,zq0 am.out 5,zq0 am.out 6,zq0 am.out 7,zq0 am.out 8⟩ (fun hHeld=>?_);clear hK K;refine norm_ (a':=?_) ?_ ?_;rotate_left
   ·show Act.put _ (some 27) _=_;simp only[Act.put,zL0,zL1,zL2,i64_w,i32_w];rfl
   refine one_ (i:=15) (N:=some 29) #[true,true,true,true,true,true,true,true,true,true,true,true,true,true,true,true,false,false,false,false,false,false] rfl rfl (one_of HT_.out zY2) zY3 (fun K hK=>?_);refine goes_ Tryz.func11 zY2 rfl #[.agg #[.int .i64 aj,.int .i64 bT,.string ct,.string bK,.int .i64 cD,.string bU,.string bP,.slice ee bV.length d2,.slice dS aY.length dz]] zY15 rfl rfl zY0 ?_;(with_reducible refine(ybu.calls k aj bT ct bK cD bU bP _ _ bV _ _ aY hU _ ?side1 ?side2 ?side3 ?side4 ER.out).mono ?_);(case side1=>exact zC (Kd.z11 bR.out).2.2);(case side2=>exact(Kd.z11 bR.out).2.1);(case side3=>exact zC (Kd.z11 bS.out).2.2);(case side4=>exact(Kd.z11 bS.out).2.1);rintro e xd ⟨rfl,hb⟩;refine⟨_,rfl,?_⟩;replace bR:=zA (Kd.z4 (zVR bR.out) hb);replace bS:=zA (Kd.z4 (zVR bS.out) hb);replace am:=zA (zq2 (zK am.out) hb);replace HB:=zA (zq1 zB hb);(try clear hb);(try clear hk);refine hK.out _ _ ⟨zq0 am.out 0,zq0 am.out 1,zq0 am.out 2,zq0 am.out 3,zq0 am.out 4,zq0 am.out 5,zq0 am.out 6,zq0 am.out 7,zq0 am.out 8⟩ (fun hHeld=>?_);clear hK K;refine norm_ (a':=?_) ?_ ?_;rotate_left
   ·show Act.put _ (some 29) _=_;simp only[Act.put,zL0,zL1,zL2,i64_w,i32_w];rfl
   refine pure_ (i:=16) (N:=some 30) (v:=?_) (a':=?_) #[true,true,true,true,true,true,true,true,true,true,true,true,true,true,true,true,true,false,false,false,false,false] rfl rfl (zq10 HT_.out zY2) (fun _ _ _ h=>h) (Or.inl ⟨by rfl,?_⟩) ?_ ?_;rotate_left
   ·intro w';go_simp;with_reducible rfl
   rotate_left
   ·simp only[Act.put,zL0,zL1,zL2,i64_w,i32_w];rfl
   refine pure_ (i:=17) (N:=some 31) (v:=?_) (a':=?_) #[true,true,true,true,true,true,true,true,true,true,true,true,true,true,true,true,true,true,false,false,false,false] rfl rfl (zq10 HT_.out zY2) (fun _ _ _ h=>h) (Or.inl ⟨by rfl,?_⟩) ?_ ?_;rotate_left
   ·intro w';go_simp;with_reducible rfl
   rotate_left
   ·simp only[Act.put,zL0,zL1,zL2,i64_w,i32_w];rfl
   refine pure_ (i:=18) (N:=some 32) (v:=?_) (a':=?_) #[true,true,true,true,true,true,true,true,true,true,true,true,true,true,true,true,true,true,true,false,false,false] rfl rfl (zq10 HT_.out zY2) (fun _ _ _ h=>h) (Or.inl ⟨by rfl,?_⟩) ?_ ?_;rotate_left
   ·intro w';go_simp;with_reducible rfl
   rotate_left
   ·simp only[Act.put,zL0,zL1,zL2,i64_w,i32_w];rfl
   refine pure_ (i:=19) (N:=some 33) (v:=undef) (a':=?_) #[true,true,true,true,true,true,true,true,true,true,true,true,true,true,true,true,true,true,true,true,false,false] rfl rfl (zq10 HT_.out zY2) (fun _ _ _ h=>h) (Or.inr ⟨by rfl,rfl⟩) ?_ ?_;rotate_left
   ·simp only[Act.put,zL0,zL1,zL2,i64_w,i32_w];rfl
   refine pure_ (i:=20) (N:=some 34) (v:=undef) (a':=?_) #[true,true,true,true,true,true,true,true,true,true,true,true,true,true,true,true,true,true,true,true,true,false] rfl rfl (zq10 HT_.out zY2) (fun _ _ _ h=>h) (Or.inr ⟨by rfl,rfl⟩) ?_ ?_;rotate_left
   ·simp only[Act.put,zL0,zL1,zL2,i64_w,i32_w];rfl
   refine pure_ (i:=21) (N:=some 35) (v:=?_) (a':=?_) #[true,true,true,true,true,true,true,true,true,true,true,true,true,true,true,true,true,true,true,true,true,true] rfl rfl (zq10 HT_.out zY2) (fun _ _ _ h=>h) (Or.inl ⟨by rfl,?_⟩) ?_ ?_;rotate_left
   ·intro w';go_simp;with_reducible rfl
   rotate_left
   ·simp only[Act.put,zL0,zL1,zL2,i64_w,i32_w];rfl
   refine done_ (done_of HT_.out zY2) ?_;(try go_wp2);go_meet;case rel=>exact⟨_,(true),zY4,H',⟨by first|omega|exact Nat.le_refl _⟩,⟨zVR bR.out⟩,⟨zVR bS.out⟩,⟨zK am.out⟩,⟨zB⟩⟩
  (have c21b0:(bG != hU)=false:=by simpa using gZ);(try(have c21b1:decide (bG=hU)=true:=by simpa using gZ));(try(have c21b2:(bG==hU)=true:=by simpa using gZ));clear gZ;have H':=zA H;clear H;(try go_wp2);replace bR:=zA (Kd.z5 bR.out);replace bS:=zA (Kd.z5 bS.out);replace am:=zA (blk_drew am.out);replace HB:=zA (zq19 HB.out);refine start_ (n:=22) (S:=fun w'=>w'.cell? ⟨cK,0,none⟩=some (.int .i64 aj)∧w'.cell? ⟨cK,1,none⟩=some (.int .i64 bT)∧w'.cell? ⟨cK,2,none⟩=some (.string ct)∧w'.cell? ⟨cK,3,none⟩=some (.string bK)∧w'.cell? ⟨cK,4,none⟩=some (.int .i64 cD)∧w'.cell? ⟨cK,5,none⟩=some (.string bU)∧w'.cell? ⟨cK,6,none⟩=some (.string bP)∧w'.cell? ⟨cK,7,none⟩=some (.slice ee bV.length d2)∧w'.cell? ⟨cK,8,none⟩=some (.slice dS aY.length dz)) (ds:=[]) #[false,false,false,false,false,false,false,false,false,false,false,false,false,false,false,false,false,false,false,false,false,false] zY2 rfl rfl ⟨zq0 am.out 0,zq0 am.out 1,zq0 am.out 2,zq0 am.out 3,zq0 am.out 4,zq0 am.out 5,zq0 am.out 6,zq0 am.out 7,zq0 am.out 8⟩ (fun hHeld=>?_);refine with_tabW yag.tab5 yag.bits5 (fun HT_ HW_=>?_);generalize gK.drew=fv at bR bS am HB hHeld ⊢;refine pure_ (i:=0) (N:=some 14) (v:=?_) (a':=?_) #[true,false,false,false,false,false,false,false,false,false,false,false,false,false,false,false,false,false,false,false,false,false] rfl rfl (zq10 HT_.out zY2) (fun _ _ _ h=>h) (Or.inl ⟨by rfl,?_⟩) ?_ ?_;rotate_left
  ·intro w';go_simp;with_reducible rfl
  rotate_left
  ·simp only[Act.put,zL0,zL1,zL2,i64_w,i32_w];rfl
  refine take_ (i:=1) (N:=some 15) (v:=?_) (a':=?_) #[true,true,false,false,false,false,false,false,false,false,false,false,false,false,false,false,false,false,false,false,false,false] rfl rfl (take_ofW HT_.out HW_.out zY2) (fun _ _ _ h=>h) (Or.inl ⟨by rfl,?_⟩) hHeld ?_ ?_;rotate_left
  ·rintro w' ⟨s0,s1,s2,s3,s4,s5,s6,s7,s8⟩;go_simp;with_reducible rfl
  rotate_left
  ·simp only[Act.put,zL0,zL1,zL2,i64_w,i32_w];rfl
  refine one_ (i:=2) (N:=some 16) #[true,true,true,false,false,false,false,false,false,false,false,false,false,false,false,false,false,false,false,false,false,false] rfl rfl (one_of HT_.out zY2) zY3 (fun K hK=>?_);refine goes_ Tryz.func9 zY2 rfl #[.agg #[.int .i64 aj,.int .i64 bT,.string ct,.string bK,.int .i64 cD,.string bU,.string bP,.slice ee bV.length d2,.slice dS aY.length dz]] zY15 rfl rfl zY0 ?_;(with_reducible refine(ya3.calls k aj bT ct bK cD bU bP _ _ bV _ _ aY cN _ ?side1 ?side2 ?side3 ?side4 mr.out).mono ?_);(case side1=>exact zC (Kd.z11 bR.out).2.2);(case side2=>exact(Kd.z11 bR.out).2.1);(case side3=>exact zC (Kd.z11 bS.out).2.2);(case side4=>exact(Kd.z11 bS.out).2.1);rintro e eG ⟨rfl,hb⟩;refine⟨_,rfl,?_⟩;replace bR:=zA (Kd.z4 (zVR bR.out) hb);replace bS:=zA (Kd.z4 (zVR bS.out) hb);replace am:=zA (zq2 (zK am.out) hb);replace HB:=zA (zq1 zB hb);(try clear hb);(try clear hk);refine hK.out _ _ ⟨zq0 am.out 0,zq0 am.out 1,zq0 am.out 2,zq0 am.out 3,zq0 am.out 4,zq0 am.out 5,zq0 am.out 6,zq0 am.out 7,zq0 am.out 8⟩ (fun hHeld=>?_);clear hK K;refine norm_ (a':=?_) ?_ ?_;rotate_left
  ·show Act.put _ (some 16) _=_;simp only[Act.put,zL0,zL1,zL2,i64_w,i32_w];rfl
  refine pure_ (i:=3) (N:=some 17) (v:=?_) (a':=?_) #[true,true,true,true,false,false,false,false,false,false,false,false,false,false,false,false,false,false,false,false,false,false] rfl rfl (zq10 HT_.out zY2) (fun _ _ _ h=>h) (Or.inl ⟨by rfl,?_⟩) ?_ ?_;rotate_left
  ·intro w';go_simp;with_reducible rfl
  rotate_left
  ·simp only[Act.put,zL0,zL1,zL2,i64_w,i32_w];rfl
  refine pure_ (i:=4) (N:=some 18) (v:=?_) (a':=?_) #[true,true,true,true,true,false,false,false,false,false,false,false,false,false,false,false,false,false,false,false,false,false] rfl rfl (zq10 HT_.out zY2) (fun _ _ _ h=>h) (Or.inl ⟨by rfl,?_⟩) ?_ ?_;rotate_left
  ·intro w';go_simp;with_reducible rfl
  rotate_left
  ·simp only[Act.put,zL0,zL1,zL2,i64_w,i32_w];rfl
  refine pure_ (i:=5) (N:=some 19) (v:=?_) (a':=?_) #[true,true,true,true,true,true,false,false,false,false,false,false,false,false,false,false,false,false,false,false,false,false] rfl rfl (zq10 HT_.out zY2) (fun _ _ _ h=>h) (Or.inl ⟨by rfl,?_⟩) ?_ ?_;rotate_left
  ·intro w';go_simp;with_reducible rfl
  rotate_left
  ·simp only[Act.put,zL0,zL1,zL2,i64_w,i32_w];rfl
  refine pure_ (i:=6) (N:=some 20) (v:=?_) (a':=?_) #[true,true,true,true,true,true,true,false,false,false,false,false,false,false,false,false,false,false,false,false,false,false] rfl rfl (zq10 HT_.out zY2) (fun _ _ _ h=>h) (Or.inl ⟨by rfl,?_⟩) ?_ ?_;rotate_left
  ·intro w';go_simp;with_reducible rfl
  rotate_left
  ·simp only[Act.put,zL0,zL1,zL2,i64_w,i32_w];rfl
  refine take_ (i:=7) (N:=some 21) (v:=?_) (a':=?_) #[true,true,true,true,true,true,true,true,false,false,false,false,false,false,false,false,false,false,false,false,false,false] rfl rfl (take_ofW HT_.out HW_.out zY2) (fun _ _ _ h=>h) (Or.inl ⟨by rfl,?_⟩) hHeld ?_ ?_;rotate_left
  ·rintro w' ⟨s0,s1,s2,s3,s4,s5,s6,s7,s8⟩;go_simp;with_reducible rfl
  rotate_left
  ·simp only[Act.put,zL0,zL1,zL2,i64_w,i32_w];rfl
  refine one_ (i:=8) (N:=some 22) #[true,true,true,true,true,true,true,true,true,false,false,false,false,false,false,false,false,false,false,false,false,false] rfl rfl (one_of HT_.out zY2) zY3 (fun K hK=>?_);refine goes_ Tryz.func10 zY2 rfl #[.agg #[.int .i64 aj,.int .i64 bT,.string ct,.string bK,.int .i64 cD,.string bU,.string bP,.slice ee bV.length d2,.slice dS aY.length dz]] zY15 rfl rfl zY0 ?_;(with_reducible refine(yam.calls k aj bT ct bK cD bU bP _ _ bV _ _ aY _ _ ?side1 ?side2 ?side3 ?side4 ?side5 o6.out).mono ?_);(case side1=>exact zC (Kd.z11 bR.out).2.2);(case side2=>exact(Kd.z11 bR.out).2.1);(case side3=>exact zC (Kd.z11 bS.out).2.2);(case side4=>exact(Kd.z11 bS.out).2.1);(case side5=>first|(with_reducible exact HG.out.weak)|((with_reducible repeat(first|exact HG.out.weak|apply GOK.drewN|apply GOK.drew));done)|exact GOK.below HG.out.weak zB);rintro e me ⟨rfl,hb⟩;refine⟨_,rfl,?_⟩;replace bR:=zA (Kd.z4 (zVR bR.out) hb);replace bS:=zA (Kd.z4 (zVR bS.out) hb);replace am:=zA (zq2 (zK am.out) hb);replace HB:=zA (zq1 zB hb);(try clear hb);(try clear hk);refine hK.out _ _ ⟨zq0 am.out 0,zq0 am.out 1,zq0 am.out 2,zq0 am.out 3,zq0 am.out 4,zq0 am.out 5,zq0 am.out 6,zq0 am.out 7,zq0 am.out 8⟩ (fun hHeld=>?_);clear hK K;refine norm_ (a':=?_) ?_ ?_;rotate_left
  ·show Act.put _ (some 22) _=_;simp only[Act.put,zL0,zL1,zL2,i64_w,i32_w];rfl
  refine pure_ (i:=9) (N:=some 23) (v:=?_) (a':=?_) #[true,true,true,true,true,true,true,true,true,true,false,false,false,false,false,false,false,false,false,false,false,false] rfl rfl (zq10 HT_.out zY2) (fun _ _ _ h=>h) (Or.inl ⟨by rfl,?_⟩) ?_ ?_;rotate_left
  ·intro w';go_simp;with_reducible rfl
  rotate_left
  ·simp only[Act.put,zL0,zL1,zL2,i64_w,i32_w];rfl
  refine pure_ (i:=10) (N:=some 24) (v:=?_) (a':=?_) #[true,true,true,true,true,true,true,true,true,true,true,false,false,false,false,false,false,false,false,false,false,false] rfl rfl (zq10 HT_.out zY2) (fun _ _ _ h=>h) (Or.inl ⟨by rfl,?_⟩) ?_ ?_;rotate_left
  ·intro w';go_simp;with_reducible rfl
  rotate_left
  ·simp only[Act.put,zL0,zL1,zL2,i64_w,i32_w];rfl
  refine pure_ (i:=11) (N:=some 25) (v:=?_) (a':=?_) #[true,true,true,true,true,true,true,true,true,true,true,true,false,false,false,false,false,false,false,false,false,false] rfl rfl (zq10 HT_.out zY2) (fun _ _ _ h=>h) (Or.inl ⟨by rfl,?_⟩) ?_ ?_;rotate_left
  ·intro w';go_simp;with_reducible rfl
  rotate_left
  ·simp only[Act.put,zL0,zL1,zL2,i64_w,i32_w];rfl
  refine take_ (i:=12) (N:=some 26) (v:=?_) (a':=?_) #[true,true,true,true,true,true,true,true,true,true,true,true,true,false,false,false,false,false,false,false,false,false] rfl rfl (take_ofW HT_.out HW_.out zY2) (fun _ _ _ h=>h) (Or.inl ⟨by rfl,?_⟩) hHeld ?_ ?_;rotate_left
  ·rintro w' ⟨s0,s1,s2,s3,s4,s5,s6,s7,s8⟩;go_simp;with_reducible rfl
  rotate_left
  ·simp only[Act.put,zL0,zL1,zL2,i64_w,i32_w];rfl
  refine take_ (i:=14) (N:=some 28) (v:=?_) (a':=?_) #[true,true,true,true,true,true,true,true,true,true,true,true,true,false,true,false,false,false,false,false,false,false] rfl rfl (take_ofW HT_.out HW_.out zY2) (fun _ _ _ h=>h) (Or.inl ⟨by rfl,?_⟩) hHeld ?_ ?_;rotate_left
  ·rintro w' ⟨s0,s1,s2,s3,s4,s5,s6,s7,s8⟩;go_simp;with_reducible rfl
  rotate_left
  ·simp only[Act.put,zL0,zL1,zL2,i64_w,i32_w];rfl
  refine one_ (i:=13) (N:=some 27) #[true,true,true,true,true,true,true,true,true,true,true,true,true,true,true,false,false,false,false,false,false,false] rfl rfl (one_of HT_.out zY2) zY3 (fun K hK=>?_);refine goes_ Tryz.func10 zY2 rfl #[.agg #[.int .i64 aj,.int .i64 bT,.string ct,.string bK,.int .i64 cD,.string bU,.string bP,.slice ee bV.length d2,.slice dS aY.length dz]] zY15 rfl rfl zY0 ?_;(with_reducible refine(yam.calls k aj bT ct bK cD bU bP _ _ bV _ _ aY _ _ ?side1 ?side2 ?side3 ?side4 ?side5 eg.out).mono ?_);(case side1=>exact zC (Kd.z11 bR.out).2.2);(case side2=>exact(Kd.z11 bR.out).2.1);(case side3=>exact zC (Kd.z11 bS.out).2.2);(case side4=>exact(Kd.z11 bS.out).2.1);(case side5=>first|(with_reducible exact HG.out.weak)|((with_reducible repeat(first|exact HG.out.weak|apply GOK.drewN|apply GOK.drew));done)|exact GOK.below HG.out.weak zB);rintro e o0 ⟨rfl,hb⟩;refine⟨_,rfl,?_⟩;replace bR:=zA (Kd.z4 (zVR bR.out) hb);replace bS:=zA (Kd.z4 (zVR bS.out) hb);replace am:=zA (zq2 (zK am.out) hb);replace HB:=zA (zq1 zB hb);(try clear hb);(try clear hk);refine hK.out _ _ ⟨zq0 am.out 0,zq0 am.out 1,zq0 am.out 2,zq0 am.out 3,zq0 am.out 4,zq0 am.out 5,zq0 am.out 6,zq0 am.out 7,zq0 am.out 8⟩ (fun hHeld=>?_);clear hK K;refine norm_ (a':=?_) ?_ ?_;rotate_left
  ·show Act.put _ (some 27) _=_;simp only[Act.put,zL0,zL1,zL2,i64_w,i32_w];rfl
  refine one_ (i:=15) (N:=some 29) #[true,true,true,true,true,true,true,true,true,true,true,true,true,true,true,true,false,false,false,false,false,false] rfl rfl (one_of HT_.out zY2) zY3 (fun K hK=>?_);refine goes_ Tryz.func11 zY2 rfl #[.agg #[.int .i64 aj,.int .i64 bT,.string ct,.string bK,.int .i64 cD,.string bU,.string bP,.slice ee bV.length d2,.slice dS aY.length dz]] zY15 rfl rfl zY0 ?_;(with_reducible refine(ybu.calls k aj bT ct bK cD bU bP _ _ bV _ _ aY hU _ ?side1 ?side2 ?side3 ?side4 ER.out).mono ?_);(case side1=>exact zC (Kd.z11 bR.out).2.2);(case side2=>exact(Kd.z11 bR.out).2.1);(case side3=>exact zC (Kd.z11 bS.out).2.2);(case side4=>exact(Kd.z11 bS.out).2.1);rintro e kB ⟨rfl,hb⟩;refine⟨_,rfl,?_⟩;replace bR:=zA (Kd.z4 (zVR bR.out) hb);replace bS:=zA (Kd.z4 (zVR bS.out) hb);replace am:=zA (zq2 (zK am.out) hb);replace HB:=zA (zq1 zB hb);(try clear hb);(try clear hk);refine hK.out _ _ ⟨zq0 am.out 0,zq0 am.out 1,zq0 am.out 2,zq0 am.out 3,zq0 am.out 4,zq0 am.out 5,zq0 am.out 6,zq0 am.out 7,zq0 am.out 8⟩ (fun hHeld=>?_);clear hK K;refine norm_ (a':=?_) ?_ ?_;rotate_left
  ·show Act.put _ (some 29) _=_;simp only[Act.put,zL0,zL1,zL2,i64_w,i32_w];rfl
  refine pure_ (i:=16) (N:=some 30) (v:=?_) (a':=?_) #[true,true,true,true,true,true,true,true,true,true,true,true,true,true,true,true,true,false,false,false,false,false] rfl rfl (zq10 HT_.out zY2) (fun _ _ _ h=>h) (Or.inl ⟨by rfl,?_⟩) ?_ ?_;rotate_left
  ·intro w';go_simp;with_reducible rfl
  rotate_left
  ·simp only[Act.put,zL0,zL1,zL2,i64_w,i32_w];rfl
  refine pure_ (i:=17) (N:=some 31) (v:=?_) (a':=?_) #[true,true,true,true,true,true,true,true,true,true,true,true,true,true,true,true,true,true,false,false,false,false] rfl rfl (zq10 HT_.out zY2) (fun _ _ _ h=>h) (Or.inl ⟨by rfl,?_⟩) ?_ ?_;rotate_left
  ·intro w';go_simp;with_reducible rfl
  rotate_left
  ·simp only[Act.put,zL0,zL1,zL2,i64_w,i32_w];rfl
  refine pure_ (i:=18) (N:=some 32) (v:=?_) (a':=?_) #[true,true,true,true,true,true,true,true,true,true,true,true,true,true,true,true,true,true,true,false,false,false] rfl rfl (zq10 HT_.out zY2) (fun _ _ _ h=>h) (Or.inl ⟨by rfl,?_⟩) ?_ ?_;rotate_left
  ·intro w';go_simp;with_reducible rfl
  rotate_left
  ·simp only[Act.put,zL0,zL1,zL2,i64_w,i32_w];rfl
  refine pure_ (i:=19) (N:=some 33) (v:=?_) (a':=?_) #[true,true,true,true,true,true,true,true,true,true,true,true,true,true,true,true,true,true,true,true,false,false] rfl rfl (zq10 HT_.out zY2) (fun _ _ _ h=>h) (Or.inl ⟨by rfl,?_⟩) ?_ ?_;rotate_left
  ·intro w';go_simp;with_reducible rfl
  rotate_left
  ·simp only[Act.put,zL0,zL1,zL2,i64_w,i32_w];rfl
  refine pure_ (i:=20) (N:=some 34) (v:=?_) (a':=?_) #[true,true,true,true,true,true,true,true,true,true,true,true,true,true,true,true,true,true,true,true,true,false] rfl rfl (zq10 HT_.out zY2) (fun _ _ _ h=>h) (Or.inl ⟨by rfl,?_⟩) ?_ ?_;rotate_left
  ·intro w';go_simp;with_reducible rfl
  rotate_left
  ·simp only[Act.put,zL0,zL1,zL2,i64_w,i32_w];rfl
  refine pure_ (i:=21) (N:=some 35) (v:=?_) (a':=?_) #[true,true,true,true,true,true,true,true,true,true,true,true,true,true,true,true,true,true,true,true,true,true] rfl rfl (zq10 HT_.out zY2) (fun _ _ _ h=>h) (Or.inl ⟨by rfl,?_⟩) ?_ ?_;rotate_left
  ·intro w';go_simp;with_reducible rfl
  rotate_left
  ·simp only[Act.put,zL0,zL1,zL2,i64_w,i32_w];rfl
  refine done_ (done_of HT_.out zY2) ?_;(try go_wp2);go_meet;case rel=>exact⟨_,((bJ.toList==([]:List UInt8))),zY4,H',⟨by first|omega|exact Nat.le_refl _⟩,⟨zVR bR.out⟩,⟨zVR bS.out⟩,⟨zK am.out⟩,⟨zB⟩⟩
 case rest =>
  clear AK;(try clear c1);(try clear c2);(try clear p2);(try clear c9);(try clear sG);(try clear sH);(try clear jq);(try clear c13b0);(try clear c13b1);(try clear gZ);(try clear c21b0);(try clear c21b1);(try clear c21b2);obtain⟨kq,AL,rfl,HA,HJ4,ep,es,am,HB⟩:=hcut;cases kq with
  | zero=>exact absurd HA.out (by simp[yag.j0])
  | succ kj4 =>
   have H:=HA.out;clear HA;simp only[yag.j0]at H;replace H:=zbp H;obtain⟨rfl,H⟩|⟨rfl,H⟩:=H
   ·replace H:=zM H;obtain⟨vv,ES,H⟩:=H;replace H:=zf H zkQNqnk zkQqn;obtain⟨⟨c36b0,c36b1,CV⟩,H⟩|⟨⟨c36b0,c36b1⟩,H⟩:=H
    ·obtain rfl:=zs H;obtain⟨_,_,_,_,_,_,_,_,_⟩:=zc9 am.out;obtain⟨_,_,_,_,_,_,_,_,_⟩:=zf9 am.out;(go_wp2_with (first|((with_reducible refine zq3 (f:=9) rfl ?_);refine zq7 (some 38) rfl rfl Tryz.func9 zY2 rfl #[.agg #[.int .i64 aj,.int .i64 bT,.string ct,.string bK,.int .i64 cD,.string bU,.string bP,.slice ee bV.length d2,.slice dS aY.length dz]] rfl zY0 ?_;(with_reducible refine(ya3.calls kj4 aj bT ct bK cD bU bP _ _ bV _ _ aY vv _ ?side1 ?side2 ?side3 ?side4 ES.out).mono ?_);(case side1=>exact zC (Kd.z11 ep.out).2.2);(case side2=>exact(Kd.z11 ep.out).2.1);(case side3=>exact zC (Kd.z11 es.out).2.2);(case side4=>exact(Kd.z11 es.out).2.1);rintro e na ⟨rfl,hb⟩;refine⟨_,rfl,?_⟩;replace ep:=zA (Kd.z4 (zVR ep.out) hb);replace es:=zA (Kd.z4 (zVR es.out) hb);replace am:=zA (zq2 (zK am.out) hb);replace HB:=zA (zq1 zB hb);clear hb)));go_ret;exact⟨by first|rfl|(simp[zq17,zq18]<;>rfl)|(simp[*,zq17,zq18]<;>rfl)|(simp[*,zq17,zq18];cases bJ.toList<;>rfl),zB⟩
    replace H:=zM H;obtain⟨cH,uD,H⟩:=H;obtain rfl:=zs H;obtain⟨_,_,_,_,_,_,_,_,_⟩:=zc9 am.out;obtain⟨_,_,_,_,_,_,_,_,_⟩:=zf9 am.out;(go_wp2_with (first|((with_reducible refine zq3 (f:=9) rfl ?_);refine zq7 (some 38) rfl rfl Tryz.func9 zY2 rfl #[.agg #[.int .i64 aj,.int .i64 bT,.string ct,.string bK,.int .i64 cD,.string bU,.string bP,.slice ee bV.length d2,.slice dS aY.length dz]] rfl zY0 ?_;(with_reducible refine(ya3.calls kj4 aj bT ct bK cD bU bP _ _ bV _ _ aY vv _ ?side1 ?side2 ?side3 ?side4 ES.out).mono ?_);(case side1=>exact zC (Kd.z11 ep.out).2.2);(case side2=>exact(Kd.z11 ep.out).2.1);(case side3=>exact zC (Kd.z11 es.out).2.2);(case side4=>exact(Kd.z11 es.out).2.1);rintro e CU ⟨rfl,hb⟩;refine⟨_,rfl,?_⟩;replace ep:=zA (Kd.z4 (zVR ep.out) hb);replace es:=zA (Kd.z4 (zVR es.out) hb);replace am:=zA (zq2 (zK am.out) hb);replace HB:=zA (zq1 zB hb);clear hb;obtain⟨_,_,_,_,_,_,_,_,_⟩:=zc9 am.out;obtain⟨_,_,_,_,_,_,_,_,_⟩:=zf9 am.out)|(go_at_call 10;(with_reducible refine(yam.calls kj4 aj bT ct bK cD bU bP _ _ bV _ _ aY cH _ ?side1 ?side2 ?side3 ?side4 ?side5 uD.out).mono ?_);(case side1=>exact zC (Kd.z11 ep.out).2.2);(case side2=>exact(Kd.z11 ep.out).2.1);(case side3=>exact zC (Kd.z11 es.out).2.2);(case side4=>exact(Kd.z11 es.out).2.1);(case side5=>first|(with_reducible exact HG.out.weak)|((with_reducible repeat(first|exact HG.out.weak|apply GOK.drewN|apply GOK.drew));done)|exact GOK.below HG.out.weak zB);rintro e mc ⟨rfl,hb⟩;replace ep:=zA (Kd.z4 (zVR ep.out) hb);replace es:=zA (Kd.z4 (zVR es.out) hb);replace am:=zA (zq2 (zK am.out) hb);replace HB:=zA (zq1 zB hb);clear hb)));go_ret;exact⟨by first|rfl|(simp[zq17,zq18]<;>rfl)|(simp[*,zq17,zq18]<;>rfl)|(simp[*,zq17,zq18];cases bJ.toList<;>rfl),zB⟩
   replace H:=zM H;obtain⟨⟨fo,fS,cC,fA,er,dl,gU,eY,fB,RJ⟩,po,H⟩:=H;(try dsimp only at H);replace H:=zb H;obtain⟨rfl,H⟩|⟨rfl,H⟩:=H
   ·obtain rfl:=zs H;(go_wp2_with (first|((with_reducible refine zq3 (f:=12) rfl ?_);refine zq7 (some 49) rfl rfl Tryz.func12 zY2 rfl #[.string bJ] rfl zY0 ?_;(with_reducible refine(yai.calls kj4 bJ fo fS cC fA er dl gU eY fB false _ ?side1 po.out).mono ?_);(case side1=>first|(with_reducible exact HG.out)|((with_reducible repeat(first|exact HG.out|apply GOKE.drewN|apply GOKE.drew));done)|exact GOKE.below HG.out zB);rintro e dN ⟨Oj,jJ,rfl,aC,bE,hb⟩;refine⟨_,rfl,?_⟩;have ed:=zA (Kd.z9 (Kd.R_new' aC (Kd.R_lt (zVR ep.out))) (zq6 zB));replace ep:=zA (Kd.R_elder' (zVR ep.out) (Kd.z3 aC) hb);have dZ:=zA (Kd.z9 (Kd.R_new' bE (Kd.R_lt (zVR es.out))) (zq6 zB));replace es:=zA (Kd.R_elder' (zVR es.out) (Kd.z3 bE) hb);replace am:=zA (zq2 (zK am.out) hb);replace HB:=zA (zq1 zB hb);clear hb aC bE)|((with_reducible refine zq5 (N:=5) rfl ?_);refine zE (N:=5) (cs:=#[.int .i64 0,.int .i64 0,.string bz0,.string bz0,.int .i64 0,.string bz0,.string bz0,.slice none 0 0,.slice none 0 0]) (t:=30) ?_;intro fi hg G6 hbox hb;replace ep:=zA (Kd.z4 (zVR ep.out) hb);replace es:=zA (Kd.z4 (zVR es.out) hb);replace ed:=zA (Kd.z4 (zVR ed.out) hb);replace dZ:=zA (Kd.z4 (zVR dZ.out) hb);have fR:=zA hbox;have Ok:=zA (zS hg:w.heap.size≤fi);have Ol:=zA (zS hg:w.heap.size≤fi);replace HB:=zA (zq1 zB hb);have AM:=zA (zNlt hg (zK am.out):cK≠fi);have AN:=zA (zNgt hg (zK am.out):fi≠cK);replace am:=zA (zq2 (zK am.out) hb);clear hb hbox hg;have Mc:=AN.out;have Md:=AM.out;obtain⟨_,_,_,_,_,_,_,_,_⟩:=zc9 fR.out;obtain⟨_,_,_,_,_,_,_,_,_⟩:=zf9 fR.out;obtain⟨RK,RL,Om⟩:=Kd.z12 ed.out;subst Om;obtain⟨BC,xB,xC⟩:=Kd.z12 dZ.out;subst xC)));go_ret;exact⟨by first|rfl|(simp[zq17,zq18]<;>rfl)|(simp[*,zq17,zq18]<;>rfl)|(simp[*,zq17,zq18];cases bJ.toList<;>rfl),zB⟩
   replace H:=zM H;obtain⟨so,tf,H⟩:=H;obtain rfl:=zs H;(go_wp2_with (first|((with_reducible refine zq3 (f:=12) rfl ?_);refine zq7 (some 49) rfl rfl Tryz.func12 zY2 rfl #[.string bJ] rfl zY0 ?_;(with_reducible refine(yai.calls kj4 bJ fo fS cC fA er dl gU eY fB true _ ?side1 po.out).mono ?_);(case side1=>first|(with_reducible exact HG.out)|((with_reducible repeat(first|exact HG.out|apply GOKE.drewN|apply GOKE.drew));done)|exact GOKE.below HG.out zB);rintro e um ⟨Oj,jJ,rfl,aC,bE,hb⟩;refine⟨_,rfl,?_⟩;have ed:=zA (Kd.z9 (Kd.R_new' aC (Kd.R_lt (zVR ep.out))) (zq6 zB));replace ep:=zA (Kd.R_elder' (zVR ep.out) (Kd.z3 aC) hb);have dZ:=zA (Kd.z9 (Kd.R_new' bE (Kd.R_lt (zVR es.out))) (zq6 zB));replace es:=zA (Kd.R_elder' (zVR es.out) (Kd.z3 bE) hb);replace am:=zA (zq2 (zK am.out) hb);replace HB:=zA (zq1 zB hb);clear hb aC bE)|((with_reducible refine zq5 (N:=5) rfl ?_);refine zE (N:=5) (cs:=#[.int .i64 0,.int .i64 0,.string bz0,.string bz0,.int .i64 0,.string bz0,.string bz0,.slice none 0 0,.slice none 0 0]) (t:=30) ?_;intro fi hg kA hbox hb;replace ep:=zA (Kd.z4 (zVR ep.out) hb);replace es:=zA (Kd.z4 (zVR es.out) hb);replace ed:=zA (Kd.z4 (zVR ed.out) hb);replace dZ:=zA (Kd.z4 (zVR dZ.out) hb);have fR:=zA hbox;have Ok:=zA (zS hg:w.heap.size≤fi);have Ol:=zA (zS hg:w.heap.size≤fi);replace HB:=zA (zq1 zB hb);have AM:=zA (zNlt hg (zK am.out):cK≠fi);have AN:=zA (zNgt hg (zK am.out):fi≠cK);replace am:=zA (zq2 (zK am.out) hb);clear hb hbox hg;have Ag:=AN.out;have Ah:=AM.out;obtain⟨_,_,_,_,_,_,_,_,_⟩:=zc9 fR.out;obtain⟨_,_,_,_,_,_,_,_,_⟩:=zf9 fR.out;obtain⟨ip,ib,On⟩:=Kd.z12 ed.out;subst On;obtain⟨fT,fp,xE⟩:=Kd.z12 dZ.out;subst xE;obtain⟨_,_,_,_,_,_,_,_,_⟩:=zc9 am.out;obtain⟨_,_,_,_,_,_,_,_,_⟩:=zf9 am.out)|(go_at_call 13;(with_reducible refine(ybv.calls kj4 fo fS cC fA er dl gU _ _ eY _ _ fB aj bT ct bK cD bU bP _ _ bV _ _ aY so _ ?side1 ?side2 ?side3 ?side4 ?side5 ?side6 ?side7 ?side8 tf.out).mono ?_);(case side1=>refine(Kd.z11 (e:=24) (base:=w.heap.size) (ok:=fun k_=>(True∧some k_≠(.slice ee bV.length d2:Value).ownBlock)) (n:=eY.length) (c:=ib) ?_).2.2;exact(by exact zr (Kd.z10 (zR9 fi (Kd.z13 ed.out fR.out zY3) (.int .i64 fo) (.int .i64 fS) (.string cC) (.string fA) (.int .i64 er) (.string dl) (.string gU) (.slice ip eY.length ib) (.slice fT fB.length fp)) (fun _ h_=>h_.1))));(case side2=>exact(Kd.z11 ed.out).2.1);(case side3=>refine(Kd.z11 (e:=9) (base:=w.heap.size) (ok:=fun k_=>(True∧some k_≠(.slice dS aY.length dz:Value).ownBlock)) (n:=fB.length) (c:=fp) ?_).2.2;exact(by exact zr (Kd.z10 (zR9 fi (Kd.z13 dZ.out fR.out zY3) (.int .i64 fo) (.int .i64 fS) (.string cC) (.string fA) (.int .i64 er) (.string dl) (.string gU) (.slice ip eY.length ib) (.slice fT fB.length fp)) (fun _ h_=>h_.1))));(case side4=>exact(Kd.z11 dZ.out).2.1);(case side5=>refine(Kd.z11 (e:=24) (base:=w.heap.size) (ok:=fun k_=>(True∧some k_≠(.slice ip eY.length ib:Value).ownBlock)) (n:=bV.length) (c:=d2) ?_).2.2;exact(by exact zr (Kd.z10 (zR9 fi (Kd.z13 ep.out fR.out zY3) (.int .i64 fo) (.int .i64 fS) (.string cC) (.string fA) (.int .i64 er) (.string dl) (.string gU) (.slice ip eY.length ib) (.slice fT fB.length fp)) (fun _ h_=>h_.1))));(case side6=>exact(Kd.z11 ep.out).2.1);(case side7=>refine(Kd.z11 (e:=9) (base:=w.heap.size) (ok:=fun k_=>(True∧some k_≠(.slice fT fB.length fp:Value).ownBlock)) (n:=aY.length) (c:=dz) ?_).2.2;exact(by exact zr (Kd.z10 (zR9 fi (Kd.z13 es.out fR.out zY3) (.int .i64 fo) (.int .i64 fS) (.string cC) (.string fA) (.int .i64 er) (.string dl) (.string gU) (.slice ip eY.length ib) (.slice fT fB.length fp)) (fun _ h_=>h_.1))));(case side8=>exact(Kd.z11 es.out).2.1);rintro e NZ ⟨rfl,hb⟩;replace ep:=zA (Kd.z4 (by exact zr (Kd.z10 (zR9 fi (Kd.z13 ep.out fR.out zY3) (.int .i64 fo) (.int .i64 fS) (.string cC) (.string fA) (.int .i64 er) (.string dl) (.string gU) (.slice ip eY.length ib) (.slice fT fB.length fp)) (fun _ h_=>h_.1))) hb);replace es:=zA (Kd.z4 (by exact zr (Kd.z10 (zR9 fi (Kd.z13 es.out fR.out zY3) (.int .i64 fo) (.int .i64 fS) (.string cC) (.string fA) (.int .i64 er) (.string dl) (.string gU) (.slice ip eY.length ib) (.slice fT fB.length fp)) (fun _ h_=>h_.1))) hb);replace ed:=zA (Kd.z4 (by exact zr (Kd.z10 (zR9 fi (Kd.z13 ed.out fR.out zY3) (.int .i64 fo) (.int .i64 fS) (.string cC) (.string fA) (.int .i64 er) (.string dl) (.string gU) (.slice ip eY.length ib) (.slice fT fB.length fp)) (fun _ h_=>h_.1))) hb);replace dZ:=zA (Kd.z4 (by exact zr (Kd.z10 (zR9 fi (Kd.z13 dZ.out fR.out zY3) (.int .i64 fo) (.int .i64 fS) (.string cC) (.string fA) (.int .i64 er) (.string dl) (.string gU) (.slice ip eY.length ib) (.slice fT fB.length fp)) (fun _ h_=>h_.1))) hb);replace am:=zA (zq2 (g:=cK) (o:=.cells #[.int .i64 aj,.int .i64 bT,.string ct,.string bK,.int .i64 cD,.string bU,.string bP,.slice ee bV.length d2,.slice dS aY.length dz] 30 (0,0)) (zG am.out) hb);replace fR:=zA (zq2 (g:=fi) (o:=.cells #[.int .i64 fo,.int .i64 fS,.string cC,.string fA,.int .i64 er,.string dl,.string gU,.slice ip eY.length ib,.slice fT fB.length fp] 30 (0,0)) (zG fR.out) hb);replace HB:=zA (zq1 zB hb);clear hb)));go_ret;exact⟨by first|rfl|(simp[zq17,zq18]<;>rfl)|(simp[*,zq17,zq18]<;>rfl)|(simp[*,zq17,zq18];cases bJ.toList<;>rfl),zB⟩
end Go.Proofs.YtjdpdkdhfnpcgaaGreatDoor.Q
namespace Go.Proofs.YtjdpdkdhfnpcgaaGreatDoor.Q
open Go.RowKit Go.Proofs.YtjdpdkdhfnpcgaaGreatDoorW.PrintWords Go.Proofs.YtjdpdkdhfnpcgaaGreatDoorW.PrintLast Go.Proofs.YtjdpdkdhfnpcgaaGreatDoorW.PrintMore
set_option linter.unusedVariables false
theorem choose_list {α : Type}(Q : Nat → α → Prop) : ∀ n : Nat, (∀ i, i<n → ∃ a, Q i a) → ∃ l : List α, l.length = n ∧ ∀ i a, l[i]? = some a → Q i a
  | 0, _ => ⟨[], rfl, fun i a h => by simp at h⟩
  | n + 1, h => by
    obtain⟨l, hl, hq⟩ := choose_list Q n (fun i hi => h i (by omega))
    obtain⟨a, ha⟩ := h n (by omega)
    refine⟨l ++ [a], by simp[hl], fun i b hb => ?_⟩
    rcases Nat.lt_or_ge i l.length with hi | hi
    · rw[List.getElem?_append_left hi]at hb
      exact hq i b hb
    · have : i = l.length := by
        have := (List.getElem?_eq_some_iff.1 hb).1
        simp at this
        omega
      subst this
      have : a = b := by simpa using hb
      subst this
      rw[hl]
      exact ha
structure Opens {α : Type}(P : Program)(d : Kd α)(t : TypeId)(bd : α → Prop) : Prop where
  out : ∀{H : Type} {enc : TypeId × Value → H} {w : World} {base : Nat} {spare : Nat → Bool} {held : Bool} {fuel : Nat} {cs : List Value} {x : DataW H × List MemPlace},
    DataW.trod enc P w base spare held fuel t cs = some x → ∃ a, d.K w a cs ∧ bd a
theorem Opens.int {P : Program}{t : TypeId}{k : IntKind}(ht : P.underlying t = some (.int k)) : Opens P (Kd.int k) t (fun n => (Lit.int k n).wf = true) :=
  ⟨fun h => by obtain⟨n, rfl, _, hw⟩ := DataW.trod_int ht h; exact⟨n, rfl, hw⟩⟩
theorem Opens.bool {P : Program}{t : TypeId}(ht : P.underlying t = some .bool) : Opens P Kd.bool t (fun _ => True) :=
  ⟨fun h => by obtain⟨n, rfl, _⟩ := DataW.trod_bool ht h; exact⟨n, rfl, trivial⟩⟩
theorem Opens.string {P : Program}{t : TypeId}(ht : P.underlying t = some .string) : Opens P Kd.string t (fun s => s.size ≤ maxLen) :=
  ⟨fun h => by obtain⟨s, rfl, _, hs⟩ := DataW.trod_string ht h; exact⟨s, rfl, hs⟩⟩
theorem cells_each {w : World}{base : Nat}{a : Addr}{n : Nat}{cs : List Value}(h : w.cells? base a n = some cs) : cs.length = n ∧ ∀ i u, cs[i]? = some u → w.cell? (a.add i) = some u := by
  obtain⟨hb, hl, hc⟩ := World.cells?_some h
  refine⟨hl, fun i u hu => ?_⟩
  rw[hc i (by have := (List.getElem?_eq_some_iff.1 hu).1; omega), hu]
theorem Opens.slice {α : Type}{P : Program}{d : Kd α}{t e : TypeId}{bd : α → Prop}(ht : P.underlying t = some (.slice e))(hsz : P.cellsOf e = d.sz)(h : Opens P d e bd) :
    Opens P (Kd.slice e d) t (fun l => l.length ≤ maxLen ∧ ∀ a∈l, bd a) := by
  refine⟨fun{H enc w base spare held fuel cs x} hx => ?_⟩
  rcases DataW.trod_slice ht hx with ⟨rfl, _⟩ | ⟨a, len, cap, elems, rest, n, _, rfl, rfl, hb, hl, hm, hlen, hel, _, _⟩
  · exact⟨[], ⟨none, 0, rfl, Nat.le_refl _, rfl, by simp, fun h => absurd h (Nat.lt_irrefl 0)⟩, by simp, by simp⟩
  · obtain⟨l, hll, hq⟩ := choose_list (fun i (z : α) => bd z ∧ ∃ c, c.length = d.sz ∧ d.K w z c ∧ ∀ j u, c[j]? = some u → w.cell? (a.add (i*d.sz + j)) = some u) len (fun i hi => by
      have he := hel i hi
      obtain⟨y, hy⟩ : ∃ y, elems[i]? = some y := ⟨_, List.getElem?_eq_getElem (by omega)⟩
      rw[hy, Option.bind_eq_some_iff]at he
      obtain⟨c, hc, hc2⟩ := he
      obtain⟨z, hz, hbd⟩ := h.out hc2
      obtain⟨h1, h2⟩ := cells_each hc
      refine⟨z, hbd, c, by rw[h1, hsz], hz, fun j u hu => ?_⟩
      have := h2 j u hu
      rw[add_add, hsz]at this
      exact this)
    subst hll
    refine⟨l, ⟨some a, cap, rfl, hl, rfl, by unfold maxLen at hm; omega, fun _ => ⟨a, rfl, fun j p hj => (hq j p hj).2⟩⟩, Nat.le_trans hl hm, fun z hz => ?_⟩
    obtain⟨i, hi, rfl⟩ := List.getElem_of_mem hz
    exact(hq i _ (List.getElem?_eq_getElem hi)).1
theorem Opens.top_slice {α : Type}{P : Program}{d : Kd α}{t e : TypeId}{bd : List α → Prop}(h : Opens P (Kd.slice e d) t bd)
    {H : Type} {enc : TypeId × Value → H} {w : World} {base : Nat} {spare : Nat → Bool} {held : Bool} {fuel : Nat} {v : Value} {x : DataW H × List MemPlace}
    (hv : ∃ A n c, v = .slice A n c) (hx : DataW.trod enc P w base spare held fuel t v.cells.toList = some x) : ∃(A : Option Addr) (c : Nat) (l : List α), v = .slice A l.length c ∧ l.length ≤ c ∧ d.C w A l.length l ∧ bd l := by
  obtain⟨A, n, c, rfl⟩ := hv
  obtain⟨l, ⟨A', c', hcs, hl, hC⟩, hbd⟩ := h.out hx
  simp[Value.cells]at hcs
  obtain⟨rfl, rfl, rfl⟩ := hcs
  exact⟨A, c, l, rfl, hl, hC, hbd⟩
end Go.Proofs.YtjdpdkdhfnpcgaaGreatDoor.Q
namespace Go.Proofs.YtjdpdkdhfnpcgaaGreatDoor.Q
open Go.RowKit Go.Proofs.YtjdpdkdhfnpcgaaGreatDoorW.PrintWords Go.Proofs.YtjdpdkdhfnpcgaaGreatDoorW.PrintLast Go.Proofs.YtjdpdkdhfnpcgaaGreatDoorW.PrintMore
open Go.ChangeShapes Go.WideShapes
theorem maxLen_laid {W : World}(h : W.ShapedOpen Tryz.prog) : ∃ m, W.cell? ⟨0, 0, none⟩ = some (.int .i64 m) :=
  Go.Proofs.cell_of_shapedOpen_int h (of_decide_eq_true (by kernel_rfl)) (t := 3) (zero := #[.int .i64 0]) (by kernel_rfl) rfl (by kernel_rfl) (by kernel_rfl) Tryz.underlying3
theorem gok_laid {W : World}{a b : String × DataW Unit}{rest : List (String × DataW Unit)}(h : W.ShapedOpen Tryz.prog)
    (hL : laidMet Tryz.prog (a :: b :: ("internal/strconv.uint64pow10", Rows.laid_internal_strconv_uint64pow10) :: rest) W) : GOK W :=
  ⟨maxLen_laid h, Lib.tabIs_of_head (g := 1) (t := 172) (e := 146) (n := 20) (by kernel_rfl) (by kernel_rfl) Tryz.underlying172 Tryz.underlying146 (by kernel_rfl) (by kernel_rfl) (laidMet.tail (laidMet.tail hL))⟩
theorem star_ : "*" ++ "errors.errorString" = "*errors.errorString" := by decide
theorem row_err (u : TypeId) (h : Tryz.prog.typeName? 3 u = some "*errors.errorString") : u = 191 :=
  typeName_ptr_named (nm := "errors.errorString") (by rw [star_]; kernel_rfl) (by kernel_rfl) (by decide) u (by rw [star_]; exact h)
theorem goke_laid {W : World}{a b c : String × DataW Unit}{rest : List (String × DataW Unit)}(h : W.ShapedOpen Tryz.prog)
    (hL : laidMet Tryz.prog (a :: b :: ("internal/strconv.uint64pow10", Rows.laid_internal_strconv_uint64pow10) :: c :: ("strconv.ErrRange", Rows.laid_strconv_ErrRange) :: ("strconv.ErrSyntax", Rows.laid_strconv_ErrSyntax) :: rest) W) : GOKE W := by
  have h4 := laidMet.tail (laidMet.tail (laidMet.tail (laidMet.tail hL)))
  have g2 : Tryz.prog.globalNamed "strconv.ErrSyntax" = some 2 := by kernel_rfl
  have g3 : Tryz.prog.globalNamed "strconv.ErrRange" = some 3 := by kernel_rfl
  obtain⟨a3, s3, hv3, -, -, -⟩ := laid_sentinel (g := 3) (ti := 90) (tp := 191) (te := 193) (ts := 9) h4 g3 (by kernel_rfl) Tryz.underlying90 row_err Tryz.underlying191 Tryz.underlying193 rfl rfl Tryz.underlying9 (by kernel_rfl) (by kernel_rfl)
  obtain⟨a2, s2, hv2, -, -, -⟩ := laid_sentinel (g := 2) (ti := 90) (tp := 191) (te := 193) (ts := 9) (laidMet.tail h4) g2 (by kernel_rfl) Tryz.underlying90 row_err Tryz.underlying191 Tryz.underlying193 rfl rfl Tryz.underlying9 (by kernel_rfl) (by kernel_rfl)
  exact⟨gok_laid h hL, ⟨_, _, by have h0 := World.var?_cell g2 hv2 0; simpa using h0⟩, ⟨_, _, by have h0 := World.var?_cell g3 hv3 0; simpa using h0⟩⟩
end Go.Proofs.YtjdpdkdhfnpcgaaGreatDoor.Q
