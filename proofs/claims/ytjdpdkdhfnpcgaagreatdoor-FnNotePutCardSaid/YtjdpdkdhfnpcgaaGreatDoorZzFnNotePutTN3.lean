/- Of a text of ours what this claim needs. -/
import Derived.Shelf.Strings.Builder1
import Derived.Shelf.Strings.Trim
import Derived.Shelf.Small.Utf8
import Derived.Shelf.Small.Strs
import Derived.Shelf.Small.Wraps
import Derived.Shelf.Strings.BuilderF
import Derived.Shelf.Strings.BuilderK
import Derived.Shelf.Utf8.RuneCount
import Derived.Shelf.Strconv.Atoi
import Derived.Shelf.Strconv.Itoa0
import Derived.Shelf.Strconv.Itoa1
import Derived.Shelf.LaysM
import Derived.Shelf.Strconv.Itoa2
import Derived.Shelf.Strconv.Itoa3
import Derived.Shelf.Strconv.AtoiErrFast
import Derived.Shelf.Strconv.ParseIntEmpty
import Derived.Shelf.Strconv.AtoiFail
import Derived.Shelf.Strconv.Clone
import Derived.Shelf.Strconv.SyntaxError
import Derived.Shelf.LaysC
import Derived.Shelf.Strconv.ToError
import Derived.Shelf.Strconv.Lower
import Derived.Shelf.Strconv.ParseUint10
import Derived.Shelf.Strconv.ParseUint10Empty
import Derived.Shelf.Strconv.ParseUint10Any
import Derived.Shelf.Strconv.ParseInt10
import Derived.Shelf.Strconv.AtoiLong
import Derived.Shelf.Strconv.AtoiInnerAll
import Derived.Shelf.Strconv.RangeError
import Derived.Shelf.Strconv.ToErrorRange
import Derived.Shelf.Strconv.AtoiAll
import Derived.Shelf.Strconv.ErrVarAll
import Derived.Shelf.Strings.Search1
import Derived.Shelf.Strings.Search2
import Derived.Shelf.Strings.Search3
import Derived.Shelf.Strings.Cut
import Derived.Shelf.Strings.Count
import Derived.Shelf.Strings.Shaped
import Derived.Shelf.Strings.Prefix
import Derived.Shelf.Strings.Split
import Derived.Shelf.Strings.SplitShaped
import Derived.Shelf.Unicode.Decode
import Derived.Shelf.Strings.Runes
import Derived.Shelf.Strings.RuneCount
import Derived.Shelf.Strings.AsciiSet
import Derived.Shelf.Strings.Explode
import Derived.Shelf.Unicode.DecodeSlow
import Derived.Shelf.Unicode.DecodeAny
import Derived.Shelf.Unicode.DecodeLast
import Derived.Shelf.Strings.SlTrimAscii
import Derived.Lib.SplitLaws
import Derived.Lib.AppendIntMem
import Derived.Maps.OwnSet
import Derived.DeepKeys4
import Derived.Test.YtjdpdkdhfnpcgaaGreatDoorZzFnNotePutTN2
set_option maxHeartbeats 8000000
set_option maxRecDepth 100000
namespace Go.Proofs.YtjdpdkdhfnpcgaaGreatDoor.Q
open Go.RowKit Go.Proofs.YtjdpdkdhfnpcgaaGreatDoorW.PrintWords Go.Proofs.YtjdpdkdhfnpcgaaGreatDoorW.PrintLast Go.Proofs.YtjdpdkdhfnpcgaaGreatDoorW.PrintMore
attribute [local go_sem] max2_int min2_int max_two min_two max_three min_three max_four min_four
set_option linter.unusedVariables false
set_option linter.unusedSimpArgs false
def yak.f (k:Nat)(ag:Int)(ai:Int)(aM:ByteArray)(bf:ByteArray)(bj:Int)(bg:ByteArray)(bh:ByteArray)(aN:List (S24))(aQ:List ByteArray):Option (ByteArray):=if ag=1 then((yas.f k bj).bind fun fC=>(if 4+fC.size≤9223372036854775807 then(if((⟨#[97,100,100,32]⟩:ByteArray)++fC).size+1≤9223372036854775807 then((ya1.f k bg bh aN aQ).bind fun gH=>(if(((⟨#[97,100,100,32]⟩:ByteArray)++fC)++(⟨#[10]⟩:ByteArray)).size+gH.size≤9223372036854775807 then(some ((((⟨#[97,100,100,32]⟩:ByteArray)++fC)++(⟨#[10]⟩:ByteArray))++gH))else(none)))else(none))else(none)))else(if ag=2 then((yas.f k ai).bind fun dv=>(if 5+dv.size≤9223372036854775807 then(if((⟨#[100,111,110,101,32]⟩:ByteArray)++dv).size+1≤9223372036854775807 then((ya9.f aM bf).bind fun gV=>(if(((⟨#[100,111,110,101,32]⟩:ByteArray)++dv)++(⟨#[32]⟩:ByteArray)).size+gV.size≤9223372036854775807 then(some ((((⟨#[100,111,110,101,32]⟩:ByteArray)++dv)++(⟨#[32]⟩:ByteArray))++gV))else(none)))else(none))else(none)))else((yas.f k ai).bind fun e7=>(if 6+e7.size≤9223372036854775807 then(if((⟨#[108,97,116,101,114,32]⟩:ByteArray)++e7).size+1≤9223372036854775807 then((ya9.f aM bf).bind fun e8=>(if(((⟨#[108,97,116,101,114,32]⟩:ByteArray)++e7)++(⟨#[32]⟩:ByteArray)).size+e8.size≤9223372036854775807 then(if((((⟨#[108,97,116,101,114,32]⟩:ByteArray)++e7)++(⟨#[32]⟩:ByteArray))++e8).size+1≤9223372036854775807 then((yas.f k bj).bind fun mS=>(if(((((⟨#[108,97,116,101,114,32]⟩:ByteArray)++e7)++(⟨#[32]⟩:ByteArray))++e8)++(⟨#[32]⟩:ByteArray)).size+mS.size≤9223372036854775807 then(some ((((((⟨#[108,97,116,101,114,32]⟩:ByteArray)++e7)++(⟨#[32]⟩:ByteArray))++e8)++(⟨#[32]⟩:ByteArray))++mS))else(none)))else(none))else(none)))else(none))else(none))))
def yak.T3:Bool × List (List Nat × List Nat):=(true,[([],[]),([0],[0]),([1],[1]),([2],[2]),([3],[3]),([],[]),([5],[5]),([6,2],[6]),([4,7],[4,7]),([8,7,0,1,2,3,4,5,6,7,8],[8])])
def yak.B3:List Nat:=[0,1,3,7,15,0,32,103,255,511]
theorem yak.tab3:rtab .any (opsOf Tryz.f26 3)=yak.T3:=by kernel_rfl
theorem yak.bits3:waitsOk yak.T3.2 yak.B3=true:=by kernel_rfl
def yak.T5:Bool × List (List Nat × List Nat):=(true,[([],[]),([0],[0]),([1],[1]),([2],[2]),([3],[3]),([],[]),([5],[5]),([6,2],[6]),([4,7],[4,7]),([8,7,0,1,2,3,4,5,6,7,8],[8])])
def yak.B5:List Nat:=[0,1,3,7,15,0,32,103,255,511]
theorem yak.tab5:rtab .any (opsOf Tryz.f26 5)=yak.T5:=by kernel_rfl
theorem yak.bits5:waitsOk yak.T5.2 yak.B5=true:=by kernel_rfl
def yak.T6:Bool × List (List Nat × List Nat):=(true,[([],[]),([0],[0]),([1],[1]),([2],[2]),([3],[3]),([],[]),([5],[5]),([6,2],[6]),([4,7],[4,7]),([8],[8]),([],[]),([10],[10]),([11,7],[11]),([9,12],[9,12]),([13,12,0,1,2,3,4,5,6,7,8,9,10,11,12,13],[13])])
def yak.B6:List Nat:=[0,1,3,7,15,0,32,103,255,511,0,1024,3303,8191,16383]
theorem yak.tab6:rtab .any (opsOf Tryz.f26 6)=yak.T6:=by kernel_rfl
theorem yak.bits6:waitsOk yak.T6.2 yak.B6=true:=by kernel_rfl
theorem yak.calls (k:Nat)(ag:Int)(ai:Int)(aM:ByteArray)(bf:ByteArray)(bj:Int)(bg:ByteArray)(bh:ByteArray)(cm:Option Addr)(cn:Nat)(aN:List (S24))(co:Option Addr)(cp:Nat)(aQ:List ByteArray)(r:ByteArray)(w:World)(fF:Kd.C k24 w cm aN.length aN)(fG:aN.length≤cn)(fH:Kd.C Kd.string w co aQ.length aQ)(fI:aQ.length≤cp)(h:yak.f k ag ai aM bf bj bg bh aN aQ=some r) :
 Calls Tryz.prog 26 #[.agg #[.int .i64 ag,.int .i64 ai,.string aM,.string bf,.int .i64 bj,.string bg,.string bh,.slice cm aN.length cn,.slice co aQ.length cp]] w fun e w'=>e=.returned (.string r)∧Below w.heap.size w w':=by
 have hu30:=Tryz.underlying30;have hu28:=Tryz.underlying28;have hu24:=Tryz.underlying24;have eL:=zA fF;have eM:=zA fG;clear fF fG;have eN:=zA fH;have eO:=zA fI;clear fH fI;have HB:=zA (Below.refl w.heap.size w);have H:=h;clear h;unfold yak.f at H;obtain⟨⟨c2b0,c2b1⟩,H⟩|⟨⟨c2b0,c2b1,c2⟩,H⟩:=zh H zkQqn zkQNqnk
 ·obtain⟨fC,A3,H⟩:=zM H;obtain⟨⟨c4b0,c4b1,c4b2,c4⟩,H⟩:=zp H zkLtdlk;obtain⟨⟨c5b0,c5b1,c5b2,c5b3,c5⟩,H⟩:=zp H zkLtdlkk;(try simp only[ByteArray.size_append',sz1,sz2,sz3,sz4,sz5,sz6,sz7,sz8]at c5b3);(try have c5b4:=eq_true c5b3);(try have c5b5:=eq_false (Nat.not_lt.2 c5b3));obtain⟨gH,A6,H⟩:=zM H;obtain⟨⟨c7b0,c7b1,c7b2,c7b3,c7⟩,H⟩:=zp H zkLtdlkk;(try simp only[ByteArray.size_append',sz1,sz2,sz3,sz4,sz5,sz6,sz7,sz8]at c7b3);(try have c7b4:=eq_true c7b3);(try have c7b5:=eq_false (Nat.not_lt.2 c7b3));obtain rfl:=zs H;go_enter Tryz.func26,Tryz.ntmps26;(try go_wp2_with (first|((with_reducible refine zq5 (N:=1) rfl ?_);refine zE (N:=1) (cs:=#[.int .i64 ag,.int .i64 ai,.string aM,.string bf,.int .i64 bj,.string bg,.string bh,.slice cm aN.length cn,.slice co aQ.length cp]) (t:=30) ?_;intro dO hg w8 hbox hb;have aU:=zA hbox;have Ba:=zA (zS hg:w.heap.size≤dO);have Bb:=zA (zS hg:w.heap.size≤dO);replace HB:=zA (zq1 zB hb);clear hb hbox hg;obtain⟨_,_,_,_,_,_,_,_,_⟩:=zc9 aU.out;obtain⟨_,_,_,_,_,_,_,_,_⟩:=zf9 aU.out)));replace aU:=zA (blk_drew aU.out);replace HB:=zA (zq19 HB.out);refine start_ (n:=10) (S:=fun w'=>w'.cell? ⟨dO,0,none⟩=some (.int .i64 ag)∧w'.cell? ⟨dO,1,none⟩=some (.int .i64 ai)∧w'.cell? ⟨dO,2,none⟩=some (.string aM)∧w'.cell? ⟨dO,3,none⟩=some (.string bf)∧w'.cell? ⟨dO,4,none⟩=some (.int .i64 bj)∧w'.cell? ⟨dO,5,none⟩=some (.string bg)∧w'.cell? ⟨dO,6,none⟩=some (.string bh)∧w'.cell? ⟨dO,7,none⟩=some (.slice cm aN.length cn)∧w'.cell? ⟨dO,8,none⟩=some (.slice co aQ.length cp)) (ds:=[]) #[false,false,false,false,false,false,false,false,false,false] zY2 rfl rfl ⟨zq0 aU.out 0,zq0 aU.out 1,zq0 aU.out 2,zq0 aU.out 3,zq0 aU.out 4,zq0 aU.out 5,zq0 aU.out 6,zq0 aU.out 7,zq0 aU.out 8⟩ (fun hHeld=>?_);refine with_tabW yak.tab3 yak.bits3 (fun HT_ HW_=>?_);generalize w8.drew=et at aU HB hHeld ⊢;refine pure_ (i:=0) (N:=some 7) (v:=?_) (a':=?_) #[true,false,false,false,false,false,false,false,false,false] rfl rfl (zq10 HT_.out zY2) (fun _ _ _ h=>h) (Or.inl ⟨by rfl,?_⟩) ?_ ?_;rotate_left
  ·intro w';go_simp;with_reducible rfl
  rotate_left
  ·simp only[Act.put,zL0,zL1,zL2,i64_w,i32_w];rfl
  refine pure_ (i:=5) (N:=some 12) (v:=?_) (a':=?_) #[true,false,false,false,false,true,false,false,false,false] rfl rfl (zq10 HT_.out zY2) (fun _ _ _ h=>h) (Or.inl ⟨by rfl,?_⟩) ?_ ?_;rotate_left
  ·intro w';go_simp;with_reducible rfl
  rotate_left
  ·simp only[Act.put,zL0,zL1,zL2,i64_w,i32_w];rfl
  refine take_ (i:=1) (N:=some 8) (v:=?_) (a':=?_) #[true,true,false,false,false,true,false,false,false,false] rfl rfl (take_ofW HT_.out HW_.out zY2) (fun _ _ _ h=>h) (Or.inl ⟨by rfl,?_⟩) hHeld ?_ ?_;rotate_left
  ·rintro w' ⟨s0,s1,s2,s3,s4,s5,s6,s7,s8⟩;go_simp;with_reducible rfl
  rotate_left
  ·simp only[Act.put,zL0,zL1,zL2,i64_w,i32_w];rfl
  refine take_ (i:=6) (N:=some 13) (v:=?_) (a':=?_) #[true,true,false,false,false,true,true,false,false,false] rfl rfl (take_ofW HT_.out HW_.out zY2) (fun _ _ _ h=>h) (Or.inl ⟨by rfl,?_⟩) hHeld ?_ ?_;rotate_left
  ·rintro w' ⟨s0,s1,s2,s3,s4,s5,s6,s7,s8⟩;go_simp;with_reducible rfl
  rotate_left
  ·simp only[Act.put,zL0,zL1,zL2,i64_w,i32_w];rfl
  refine one_ (i:=2) (N:=some 9) #[true,true,true,false,false,true,true,false,false,false] rfl rfl (one_of HT_.out zY2) zY3 (fun K hK=>?_);refine goes_ Tryz.func60 zY2 rfl #[.int .i64 bj] zY15 rfl rfl zY0 ?_;(with_reducible refine(yas.calls k bj fC _ A3.out).mono ?_);rintro e gK ⟨rfl,hb⟩;refine⟨_,rfl,?_⟩;replace aU:=zA (zq2 (zK aU.out) hb);replace HB:=zA (zq1 zB hb);(try clear hb);refine hK.out _ _ ⟨zq0 aU.out 0,zq0 aU.out 1,zq0 aU.out 2,zq0 aU.out 3,zq0 aU.out 4,zq0 aU.out 5,zq0 aU.out 6,zq0 aU.out 7,zq0 aU.out 8⟩ (fun hHeld=>?_);clear hK K;refine norm_ (a':=?_) ?_ ?_;rotate_left
  ·show Act.put _ (some 9) _=_;simp only[Act.put,zL0,zL1,zL2,i64_w,i32_w];rfl
  refine pure_ (i:=3) (N:=some 10) (v:=?_) (a':=?_) #[true,true,true,true,false,true,true,false,false,false] rfl rfl (zq10 HT_.out zY2) (fun _ _ _ h=>h) (Or.inl ⟨by rfl,?_⟩) ?_ ?_;rotate_left
  ·intro w';go_simp;with_reducible rfl
  rotate_left
  ·simp only[Act.put,zL0,zL1,zL2,i64_w,i32_w];rfl
  refine pure_ (i:=4) (N:=some 11) (v:=?_) (a':=?_) #[true,true,true,true,true,true,true,false,false,false] rfl rfl (zq10 HT_.out zY2) (fun _ _ _ h=>h) (Or.inl ⟨by rfl,?_⟩) ?_ ?_;rotate_left
  ·intro w';go_simp;with_reducible rfl
  rotate_left
  ·simp only[Act.put,zL0,zL1,zL2,i64_w,i32_w];rfl
  refine one_ (i:=7) (N:=some 14) #[true,true,true,true,true,true,true,true,false,false] rfl rfl (one_of HT_.out zY2) zY3 (fun K hK=>?_);refine goes_ Tryz.func61 zY2 rfl #[.agg #[.string bg,.string bh,.slice cm aN.length cn,.slice co aQ.length cp]] zY15 rfl rfl zY0 ?_;(with_reducible refine(ya1.calls k bg bh _ _ aN _ _ aQ gH _ ?side1 ?side2 ?side3 ?side4 A6.out).mono ?_);(case side1=>exact zC (Kd.z0 eL.out HB.out));(case side2=>exact eM.out);(case side3=>exact zC (Kd.z0 eN.out HB.out));(case side4=>exact eO.out);rintro e ew ⟨rfl,hb⟩;refine⟨_,rfl,?_⟩;replace aU:=zA (zq2 (zK aU.out) hb);replace HB:=zA (zq1 zB hb);(try clear hb);refine hK.out _ _ ⟨zq0 aU.out 0,zq0 aU.out 1,zq0 aU.out 2,zq0 aU.out 3,zq0 aU.out 4,zq0 aU.out 5,zq0 aU.out 6,zq0 aU.out 7,zq0 aU.out 8⟩ (fun hHeld=>?_);clear hK K;refine norm_ (a':=?_) ?_ ?_;rotate_left
  ·show Act.put _ (some 14) _=_;simp only[Act.put,zL0,zL1,zL2,i64_w,i32_w];rfl
  refine pure_ (i:=8) (N:=some 15) (v:=?_) (a':=?_) #[true,true,true,true,true,true,true,true,true,false] rfl rfl (zq10 HT_.out zY2) (fun _ _ _ h=>h) (Or.inl ⟨by rfl,?_⟩) ?_ ?_;rotate_left
  ·intro w';go_simp;with_reducible rfl
  rotate_left
  ·simp only[Act.put,zL0,zL1,zL2,i64_w,i32_w];rfl
  refine pure_ (i:=9) (N:=some 2) (v:=?_) (a':=?_) #[true,true,true,true,true,true,true,true,true,true] rfl rfl (zq10 HT_.out zY2) (fun _ _ _ h=>h) (Or.inl ⟨by rfl,?_⟩) ?_ ?_;rotate_left
  ·intro w';go_simp;with_reducible rfl
  rotate_left
  ·simp only[Act.put,zL0,zL1,zL2,i64_w,i32_w];rfl
  refine done_ (done_of HT_.out zY2) ?_;(try go_wp2);go_ret;exact⟨zT,zB⟩
 obtain⟨⟨c13b0,c13b1⟩,H⟩|⟨⟨c13b0,c13b1,jq⟩,H⟩:=zh H zkQqn zkQNqnk
 ·obtain⟨dv,o6,H⟩:=zM H;obtain⟨⟨c15b0,c15b1,c15b2,gX⟩,H⟩:=zp H zkLtdlk;obtain⟨⟨c16b0,c16b1,c16b2,c16b3,oZ⟩,H⟩:=zp H zkLtdlkk;(try simp only[ByteArray.size_append',sz1,sz2,sz3,sz4,sz5,sz6,sz7,sz8]at c16b3);(try have c16b4:=eq_true c16b3);(try have c16b5:=eq_false (Nat.not_lt.2 c16b3));obtain⟨gV,gL,H⟩:=zM H;obtain⟨⟨c18b0,c18b1,c18b2,c18b3,sL⟩,H⟩:=zp H zkLtdlkk;(try simp only[ByteArray.size_append',sz1,sz2,sz3,sz4,sz5,sz6,sz7,sz8]at c18b3);(try have c18b4:=eq_true c18b3);(try have c18b5:=eq_false (Nat.not_lt.2 c18b3));obtain rfl:=zs H;go_enter Tryz.func26,Tryz.ntmps26;(try go_wp2_with (first|((with_reducible refine zq5 (N:=1) rfl ?_);refine zE (N:=1) (cs:=#[.int .i64 ag,.int .i64 ai,.string aM,.string bf,.int .i64 bj,.string bg,.string bh,.slice cm aN.length cn,.slice co aQ.length cp]) (t:=30) ?_;intro dO hg eH hbox hb;have aU:=zA hbox;have Ba:=zA (zS hg:w.heap.size≤dO);have Bb:=zA (zS hg:w.heap.size≤dO);replace HB:=zA (zq1 zB hb);clear hb hbox hg;obtain⟨_,_,_,_,_,_,_,_,_⟩:=zc9 aU.out;obtain⟨_,_,_,_,_,_,_,_,_⟩:=zf9 aU.out)));replace aU:=zA (blk_drew aU.out);replace HB:=zA (zq19 HB.out);refine start_ (n:=10) (S:=fun w'=>w'.cell? ⟨dO,0,none⟩=some (.int .i64 ag)∧w'.cell? ⟨dO,1,none⟩=some (.int .i64 ai)∧w'.cell? ⟨dO,2,none⟩=some (.string aM)∧w'.cell? ⟨dO,3,none⟩=some (.string bf)∧w'.cell? ⟨dO,4,none⟩=some (.int .i64 bj)∧w'.cell? ⟨dO,5,none⟩=some (.string bg)∧w'.cell? ⟨dO,6,none⟩=some (.string bh)∧w'.cell? ⟨dO,7,none⟩=some (.slice cm aN.length cn)∧w'.cell? ⟨dO,8,none⟩=some (.slice co aQ.length cp)) (ds:=[]) #[false,false,false,false,false,false,false,false,false,false] zY2 rfl rfl ⟨zq0 aU.out 0,zq0 aU.out 1,zq0 aU.out 2,zq0 aU.out 3,zq0 aU.out 4,zq0 aU.out 5,zq0 aU.out 6,zq0 aU.out 7,zq0 aU.out 8⟩ (fun hHeld=>?_);refine with_tabW yak.tab5 yak.bits5 (fun HT_ HW_=>?_);generalize eH.drew=Bc at aU HB hHeld ⊢;refine pure_ (i:=0) (N:=some 18) (v:=?_) (a':=?_) #[true,false,false,false,false,false,false,false,false,false] rfl rfl (zq10 HT_.out zY2) (fun _ _ _ h=>h) (Or.inl ⟨by rfl,?_⟩) ?_ ?_;rotate_left
  ·intro w';go_simp;with_reducible rfl
  rotate_left
  ·simp only[Act.put,zL0,zL1,zL2,i64_w,i32_w];rfl
  refine pure_ (i:=5) (N:=some 23) (v:=?_) (a':=?_) #[true,false,false,false,false,true,false,false,false,false] rfl rfl (zq10 HT_.out zY2) (fun _ _ _ h=>h) (Or.inl ⟨by rfl,?_⟩) ?_ ?_;rotate_left
  ·intro w';go_simp;with_reducible rfl
  rotate_left
  ·simp only[Act.put,zL0,zL1,zL2,i64_w,i32_w];rfl
  refine take_ (i:=1) (N:=some 19) (v:=?_) (a':=?_) #[true,true,false,false,false,true,false,false,false,false] rfl rfl (take_ofW HT_.out HW_.out zY2) (fun _ _ _ h=>h) (Or.inl ⟨by rfl,?_⟩) hHeld ?_ ?_;rotate_left
  ·rintro w' ⟨s0,s1,s2,s3,s4,s5,s6,s7,s8⟩;go_simp;with_reducible rfl
  rotate_left
  ·simp only[Act.put,zL0,zL1,zL2,i64_w,i32_w];rfl
  refine take_ (i:=6) (N:=some 24) (v:=?_) (a':=?_) #[true,true,false,false,false,true,true,false,false,false] rfl rfl (take_ofW HT_.out HW_.out zY2) (fun _ _ _ h=>h) (Or.inl ⟨by rfl,?_⟩) hHeld ?_ ?_;rotate_left
  ·rintro w' ⟨s0,s1,s2,s3,s4,s5,s6,s7,s8⟩;go_simp;with_reducible rfl
  rotate_left
  ·simp only[Act.put,zL0,zL1,zL2,i64_w,i32_w];rfl
  refine one_ (i:=2) (N:=some 20) #[true,true,true,false,false,true,true,false,false,false] rfl rfl (one_of HT_.out zY2) zY3 (fun K hK=>?_);refine goes_ Tryz.func60 zY2 rfl #[.int .i64 ai] zY15 rfl rfl zY0 ?_;(with_reducible refine(yas.calls k ai dv _ o6.out).mono ?_);rintro e sx ⟨rfl,hb⟩;refine⟨_,rfl,?_⟩;replace aU:=zA (zq2 (zK aU.out) hb);replace HB:=zA (zq1 zB hb);(try clear hb);refine hK.out _ _ ⟨zq0 aU.out 0,zq0 aU.out 1,zq0 aU.out 2,zq0 aU.out 3,zq0 aU.out 4,zq0 aU.out 5,zq0 aU.out 6,zq0 aU.out 7,zq0 aU.out 8⟩ (fun hHeld=>?_);clear hK K;refine norm_ (a':=?_) ?_ ?_;rotate_left
  ·show Act.put _ (some 20) _=_;simp only[Act.put,zL0,zL1,zL2,i64_w,i32_w];rfl
  refine pure_ (i:=3) (N:=some 21) (v:=?_) (a':=?_) #[true,true,true,true,false,true,true,false,false,false] rfl rfl (zq10 HT_.out zY2) (fun _ _ _ h=>h) (Or.inl ⟨by rfl,?_⟩) ?_ ?_;rotate_left
  ·intro w';go_simp;with_reducible rfl
  rotate_left
  ·simp only[Act.put,zL0,zL1,zL2,i64_w,i32_w];rfl
  refine pure_ (i:=4) (N:=some 22) (v:=?_) (a':=?_) #[true,true,true,true,true,true,true,false,false,false] rfl rfl (zq10 HT_.out zY2) (fun _ _ _ h=>h) (Or.inl ⟨by rfl,?_⟩) ?_ ?_;rotate_left
  ·intro w';go_simp;with_reducible rfl
  rotate_left
  ·simp only[Act.put,zL0,zL1,zL2,i64_w,i32_w];rfl
  refine one_ (i:=7) (N:=some 25) #[true,true,true,true,true,true,true,true,false,false] rfl rfl (one_of HT_.out zY2) zY3 (fun K hK=>?_);refine goes_ Tryz.func62 zY2 rfl #[.agg #[.string aM,.string bf]] zY15 rfl rfl zY0 ?_;(with_reducible refine(ya9.calls aM bf gV _ gL.out).mono ?_);rintro e la ⟨rfl,hb⟩;refine⟨_,rfl,?_⟩;replace aU:=zA (zq2 (zK aU.out) hb);replace HB:=zA (zq1 zB hb);(try clear hb);refine hK.out _ _ ⟨zq0 aU.out 0,zq0 aU.out 1,zq0 aU.out 2,zq0 aU.out 3,zq0 aU.out 4,zq0 aU.out 5,zq0 aU.out 6,zq0 aU.out 7,zq0 aU.out 8⟩ (fun hHeld=>?_);clear hK K;refine norm_ (a':=?_) ?_ ?_;rotate_left
  ·show Act.put _ (some 25) _=_;simp only[Act.put,zL0,zL1,zL2,i64_w,i32_w];rfl
  refine pure_ (i:=8) (N:=some 26) (v:=?_) (a':=?_) #[true,true,true,true,true,true,true,true,true,false] rfl rfl (zq10 HT_.out zY2) (fun _ _ _ h=>h) (Or.inl ⟨by rfl,?_⟩) ?_ ?_;rotate_left
  ·intro w';go_simp;with_reducible rfl
  rotate_left
  ·simp only[Act.put,zL0,zL1,zL2,i64_w,i32_w];rfl
  refine pure_ (i:=9) (N:=some 2) (v:=?_) (a':=?_) #[true,true,true,true,true,true,true,true,true,true] rfl rfl (zq10 HT_.out zY2) (fun _ _ _ h=>h) (Or.inl ⟨by rfl,?_⟩) ?_ ?_;rotate_left
  ·intro w';go_simp;with_reducible rfl
  rotate_left
  ·simp only[Act.put,zL0,zL1,zL2,i64_w,i32_w];rfl
  refine done_ (done_of HT_.out zY2) ?_;(try go_wp2);go_ret;exact⟨zT,zB⟩
 obtain⟨e7,ju,H⟩:=zM H;obtain⟨⟨c25b0,c25b1,c25b2,xa⟩,H⟩:=zp H zkLtdlk;obtain⟨⟨c26b0,c26b1,c26b2,c26b3,Bd⟩,H⟩:=zp H zkLtdlkk;try simp only[ByteArray.size_append',sz1,sz2,sz3,sz4,sz5,sz6,sz7,sz8]at c26b3
 try have c26b4:=eq_true c26b3
 try have c26b5:=eq_false (Nat.not_lt.2 c26b3)
 obtain⟨e8,nj,H⟩:=zM H;obtain⟨⟨c28b0,c28b1,c28b2,c28b3,sM⟩,H⟩:=zp H zkLtdlkk;try simp only[ByteArray.size_append',sz1,sz2,sz3,sz4,sz5,sz6,sz7,sz8]at c28b3
 try have c28b4:=eq_true c28b3
 try have c28b5:=eq_false (Nat.not_lt.2 c28b3)
 obtain⟨⟨c29b0,c29b1,c29b2,c29b3,Ox⟩,H⟩:=zp H zkLtdlkk;try simp only[ByteArray.size_append',sz1,sz2,sz3,sz4,sz5,sz6,sz7,sz8]at c29b3
 try have c29b4:=eq_true c29b3
 try have c29b5:=eq_false (Nat.not_lt.2 c29b3)
 obtain⟨mS,jW,H⟩:=zM H;obtain⟨⟨c31b0,c31b1,c31b2,c31b3,FN⟩,H⟩:=zp H zkLtdlkk;try simp only[ByteArray.size_append',sz1,sz2,sz3,sz4,sz5,sz6,sz7,sz8]at c31b3
 try have c31b4:=eq_true c31b3
 try have c31b5:=eq_false (Nat.not_lt.2 c31b3)
 obtain rfl:=zs H;go_enter Tryz.func26,Tryz.ntmps26;try go_wp2_with (first|((with_reducible refine zq5 (N:=1) rfl ?_);refine zE (N:=1) (cs:=#[.int .i64 ag,.int .i64 ai,.string aM,.string bf,.int .i64 bj,.string bg,.string bh,.slice cm aN.length cn,.slice co aQ.length cp]) (t:=30) ?_;intro dO hg qq hbox hb;have aU:=zA hbox;have Ba:=zA (zS hg:w.heap.size≤dO);have Bb:=zA (zS hg:w.heap.size≤dO);replace HB:=zA (zq1 zB hb);clear hb hbox hg;obtain⟨_,_,_,_,_,_,_,_,_⟩:=zc9 aU.out;obtain⟨_,_,_,_,_,_,_,_,_⟩:=zf9 aU.out))
 replace aU:=zA (blk_drew aU.out);replace HB:=zA (zq19 HB.out);refine start_ (n:=15) (S:=fun w'=>w'.cell? ⟨dO,0,none⟩=some (.int .i64 ag)∧w'.cell? ⟨dO,1,none⟩=some (.int .i64 ai)∧w'.cell? ⟨dO,2,none⟩=some (.string aM)∧w'.cell? ⟨dO,3,none⟩=some (.string bf)∧w'.cell? ⟨dO,4,none⟩=some (.int .i64 bj)∧w'.cell? ⟨dO,5,none⟩=some (.string bg)∧w'.cell? ⟨dO,6,none⟩=some (.string bh)∧w'.cell? ⟨dO,7,none⟩=some (.slice cm aN.length cn)∧w'.cell? ⟨dO,8,none⟩=some (.slice co aQ.length cp)) (ds:=[]) #[false,false,false,false,false,false,false,false,false,false,false,false,false,false,false] zY2 rfl rfl ⟨zq0 aU.out 0,zq0 aU.out 1,zq0 aU.out 2,zq0 aU.out 3,zq0 aU.out 4,zq0 aU.out 5,zq0 aU.out 6,zq0 aU.out 7,zq0 aU.out 8⟩ (fun hHeld=>?_);refine with_tabW yak.tab6 yak.bits6 (fun HT_ HW_=>?_);generalize qq.drew=o7 at aU HB hHeld ⊢;refine pure_ (i:=0) (N:=some 27) (v:=?_) (a':=?_) #[true,false,false,false,false,false,false,false,false,false,false,false,false,false,false] rfl rfl (zq10 HT_.out zY2) (fun _ _ _ h=>h) (Or.inl ⟨by rfl,?_⟩) ?_ ?_;rotate_left
 ·intro w';go_simp;with_reducible rfl
 rotate_left
 ·simp only[Act.put,zL0,zL1,zL2,i64_w,i32_w];rfl
 refine pure_ (i:=5) (N:=some 32) (v:=?_) (a':=?_) #[true,false,false,false,false,true,false,false,false,false,false,false,false,false,false] rfl rfl (zq10 HT_.out zY2) (fun _ _ _ h=>h) (Or.inl ⟨by rfl,?_⟩) ?_ ?_;rotate_left
 ·intro w';go_simp;with_reducible rfl
 rotate_left
 ·simp only[Act.put,zL0,zL1,zL2,i64_w,i32_w];rfl
 refine pure_ (i:=10) (N:=some 37) (v:=?_) (a':=?_) #[true,false,false,false,false,true,false,false,false,false,true,false,false,false,false] rfl rfl (zq10 HT_.out zY2) (fun _ _ _ h=>h) (Or.inl ⟨by rfl,?_⟩) ?_ ?_;rotate_left
 ·intro w';go_simp;with_reducible rfl
 rotate_left
 ·simp only[Act.put,zL0,zL1,zL2,i64_w,i32_w];rfl
 refine take_ (i:=1) (N:=some 28) (v:=?_) (a':=?_) #[true,true,false,false,false,true,false,false,false,false,true,false,false,false,false] rfl rfl (take_ofW HT_.out HW_.out zY2) (fun _ _ _ h=>h) (Or.inl ⟨by rfl,?_⟩) hHeld ?_ ?_;rotate_left
 ·rintro w' ⟨s0,s1,s2,s3,s4,s5,s6,s7,s8⟩;go_simp;with_reducible rfl
 rotate_left
 ·simp only[Act.put,zL0,zL1,zL2,i64_w,i32_w];rfl
 refine take_ (i:=6) (N:=some 33) (v:=?_) (a':=?_) #[true,true,false,false,false,true,true,false,false,false,true,false,false,false,false] rfl rfl (take_ofW HT_.out HW_.out zY2) (fun _ _ _ h=>h) (Or.inl ⟨by rfl,?_⟩) hHeld ?_ ?_;rotate_left
 ·rintro w' ⟨s0,s1,s2,s3,s4,s5,s6,s7,s8⟩;go_simp;with_reducible rfl
 rotate_left
 ·simp only[Act.put,zL0,zL1,zL2,i64_w,i32_w];rfl
 refine take_ (i:=11) (N:=some 38) (v:=?_) (a':=?_) #[true,true,false,false,false,true,true,false,false,false,true,true,false,false,false] rfl rfl (take_ofW HT_.out HW_.out zY2) (fun _ _ _ h=>h) (Or.inl ⟨by rfl,?_⟩) hHeld ?_ ?_;rotate_left
 ·rintro w' ⟨s0,s1,s2,s3,s4,s5,s6,s7,s8⟩;go_simp;with_reducible rfl
 rotate_left
 ·simp only[Act.put,zL0,zL1,zL2,i64_w,i32_w];rfl
 refine one_ (i:=2) (N:=some 29) #[true,true,true,false,false,true,true,false,false,false,true,true,false,false,false] rfl rfl (one_of HT_.out zY2) zY3 (fun K hK=>?_);refine goes_ Tryz.func60 zY2 rfl #[.int .i64 ai] zY15 rfl rfl zY0 ?_;with_reducible refine(yas.calls k ai e7 _ ju.out).mono ?_
 rintro e qy ⟨rfl,hb⟩;refine⟨_,rfl,?_⟩;replace aU:=zA (zq2 (zK aU.out) hb);replace HB:=zA (zq1 zB hb);(try clear hb);refine hK.out _ _ ⟨zq0 aU.out 0,zq0 aU.out 1,zq0 aU.out 2,zq0 aU.out 3,zq0 aU.out 4,zq0 aU.out 5,zq0 aU.out 6,zq0 aU.out 7,zq0 aU.out 8⟩ (fun hHeld=>?_);clear hK K;refine norm_ (a':=?_) ?_ ?_;rotate_left
 ·show Act.put _ (some 29) _=_;simp only[Act.put,zL0,zL1,zL2,i64_w,i32_w];rfl
 refine pure_ (i:=3) (N:=some 30) (v:=?_) (a':=?_) #[true,true,true,true,false,true,true,false,false,false,true,true,false,false,false] rfl rfl (zq10 HT_.out zY2) (fun _ _ _ h=>h) (Or.inl ⟨by rfl,?_⟩) ?_ ?_;rotate_left
 ·intro w';go_simp;with_reducible rfl
 rotate_left
 ·simp only[Act.put,zL0,zL1,zL2,i64_w,i32_w];rfl
 refine pure_ (i:=4) (N:=some 31) (v:=?_) (a':=?_) #[true,true,true,true,true,true,true,false,false,false,true,true,false,false,false] rfl rfl (zq10 HT_.out zY2) (fun _ _ _ h=>h) (Or.inl ⟨by rfl,?_⟩) ?_ ?_;rotate_left
 ·intro w';go_simp;with_reducible rfl
 rotate_left
 ·simp only[Act.put,zL0,zL1,zL2,i64_w,i32_w];rfl
 refine one_ (i:=7) (N:=some 34) #[true,true,true,true,true,true,true,true,false,false,true,true,false,false,false] rfl rfl (one_of HT_.out zY2) zY3 (fun K hK=>?_);refine goes_ Tryz.func62 zY2 rfl #[.agg #[.string aM,.string bf]] zY15 rfl rfl zY0 ?_;with_reducible refine(ya9.calls aM bf e8 _ nj.out).mono ?_
 rintro e ql ⟨rfl,hb⟩;refine⟨_,rfl,?_⟩;replace aU:=zA (zq2 (zK aU.out) hb);replace HB:=zA (zq1 zB hb);(try clear hb);refine hK.out _ _ ⟨zq0 aU.out 0,zq0 aU.out 1,zq0 aU.out 2,zq0 aU.out 3,zq0 aU.out 4,zq0 aU.out 5,zq0 aU.out 6,zq0 aU.out 7,zq0 aU.out 8⟩ (fun hHeld=>?_);clear hK K;refine norm_ (a':=?_) ?_ ?_;rotate_left
 ·show Act.put _ (some 34) _=_;simp only[Act.put,zL0,zL1,zL2,i64_w,i32_w];rfl
 refine pure_ (i:=8) (N:=some 35) (v:=?_) (a':=?_) #[true,true,true,true,true,true,true,true,true,false,true,true,false,false,false] rfl rfl (zq10 HT_.out zY2) (fun _ _ _ h=>h) (Or.inl ⟨by rfl,?_⟩) ?_ ?_;rotate_left
 ·intro w';go_simp;with_reducible rfl
 rotate_left
 ·simp only[Act.put,zL0,zL1,zL2,i64_w,i32_w];rfl
 refine pure_ (i:=9) (N:=some 36) (v:=?_) (a':=?_) #[true,true,true,true,true,true,true,true,true,true,true,true,false,false,false] rfl rfl (zq10 HT_.out zY2) (fun _ _ _ h=>h) (Or.inl ⟨by rfl,?_⟩) ?_ ?_;rotate_left
 ·intro w';go_simp;with_reducible rfl
 rotate_left
 ·simp only[Act.put,zL0,zL1,zL2,i64_w,i32_w];rfl
 refine one_ (i:=12) (N:=some 39) #[true,true,true,true,true,true,true,true,true,true,true,true,true,false,false] rfl rfl (one_of HT_.out zY2) zY3 (fun K hK=>?_);refine goes_ Tryz.func60 zY2 rfl #[.int .i64 bj] zY15 rfl rfl zY0 ?_;with_reducible refine(yas.calls k bj mS _ jW.out).mono ?_
 rintro e sN ⟨rfl,hb⟩;refine⟨_,rfl,?_⟩;replace aU:=zA (zq2 (zK aU.out) hb);replace HB:=zA (zq1 zB hb);(try clear hb);refine hK.out _ _ ⟨zq0 aU.out 0,zq0 aU.out 1,zq0 aU.out 2,zq0 aU.out 3,zq0 aU.out 4,zq0 aU.out 5,zq0 aU.out 6,zq0 aU.out 7,zq0 aU.out 8⟩ (fun hHeld=>?_);clear hK K;refine norm_ (a':=?_) ?_ ?_;rotate_left
 ·show Act.put _ (some 39) _=_;simp only[Act.put,zL0,zL1,zL2,i64_w,i32_w];rfl
 refine pure_ (i:=13) (N:=some 40) (v:=?_) (a':=?_) #[true,true,true,true,true,true,true,true,true,true,true,true,true,true,false] rfl rfl (zq10 HT_.out zY2) (fun _ _ _ h=>h) (Or.inl ⟨by rfl,?_⟩) ?_ ?_;rotate_left
 ·intro w';go_simp;with_reducible rfl
 rotate_left
 ·simp only[Act.put,zL0,zL1,zL2,i64_w,i32_w];rfl
 refine pure_ (i:=14) (N:=some 2) (v:=?_) (a':=?_) #[true,true,true,true,true,true,true,true,true,true,true,true,true,true,true] rfl rfl (zq10 HT_.out zY2) (fun _ _ _ h=>h) (Or.inl ⟨by rfl,?_⟩) ?_ ?_;rotate_left
 ·intro w';go_simp;with_reducible rfl
 rotate_left
 ·simp only[Act.put,zL0,zL1,zL2,i64_w,i32_w];rfl
 refine done_ (done_of HT_.out zY2) ?_;try go_wp2
 go_ret;exact⟨zT,zB⟩
end Go.Proofs.YtjdpdkdhfnpcgaaGreatDoor.Q
namespace Go.Proofs
open Go.Shelf
def Tryz.lays169_ren : Go.Shelf.Ren := ⟨fun | 169 => 106 | n => n, fun | 70 => 126 | 9 => 9 | 0 => 0 | 72 => 128 | 37 => 22 | 127 => 151 | 3 => 3 | 5 => 5 | n => n, fun | n => n⟩
theorem Tryz.lays169 : Go.Proofs.Lays.n169 Tryz.prog Tryz.lays169_ren := {
  mixed := by kernel_rfl
  f169 := Tryz.func106.trans (congrArg some (by kernel_rfl))
  t0 := Tryz.underlying0
  a0 := Tryz.isAgg0
  z0 := Tryz.sizeOf0
  v0 := Tryz.zeroValue0
  t3 := Tryz.underlying3
  a3 := Tryz.isAgg3
  z3 := Tryz.sizeOf3
  v3 := Tryz.zeroValue3
  t9 := Tryz.underlying9
  a9 := Tryz.isAgg9
  z9 := Tryz.sizeOf9
  v9 := Tryz.zeroValue9
  t37 := Tryz.underlying22
  a37 := Tryz.isAgg22
  z37 := Tryz.sizeOf22
  v37 := Tryz.zeroValue22
  t70 := Tryz.underlying126
  a70 := Tryz.isAgg126
  z70 := Tryz.sizeOf126
  v70 := Tryz.zeroValue126
  t72 := Tryz.underlying128
  a72 := Tryz.isAgg128
  z72 := Tryz.sizeOf128
  v72 := Tryz.zeroValue128
  t127 := Tryz.underlying151
  a127 := Tryz.isAgg151
  z127 := Tryz.sizeOf151
  v127 := Tryz.zeroValue151 }
theorem Tryz.Builder_Extra_169 : Builder.Extra Tryz.prog Tryz.lays169_ren := {
  sizeBuilder := by kernel_rfl
  liesBuilder := by kernel_rfl
  t5 := Tryz.underlying5
  a5 := Tryz.isAgg5
  z5 := Tryz.sizeOf5
  v5 := Tryz.zeroValue5
  infoByte := by kernel_rfl
  cellsByte := by kernel_rfl
  sizeByte := by kernel_rfl
  neB5 := by decide }
def Tryz.lays160_ren : Go.Shelf.Ren := ⟨fun | 160 => 111 | 232 => 142 | 231 => 141 | 227 => 143 | 234 => 145 | 233 => 144 | 236 => 147 | 235 => 146 | 228 => 173 | 271 => 175 | 151 => 174 | 197 => 161 | 120 => 185 | 152 => 184 | 260 => 181 | 137 => 188 | 119 => 189 | 224 => 151 | 225 => 150 | 217 => 149 | 266 => 176 | n => n, fun | 9 => 9 | 4 => 4 | 3 => 3 | 5 => 5 | 117 => 155 | 116 => 154 | 0 => 0 | 124 => 158 | 21 => 21 | 105 => 168 | 46 => 161 | 119 => 194 | 139 => 197 | 138 => 196 | n => n, fun | 3 => 4 | 4 => 5 | n => n⟩
theorem Tryz.lays160 : Go.Proofs.Lays.n160 Tryz.prog Tryz.lays160_ren := {
  mixed := by kernel_rfl
  f119 := Tryz.func189.trans (congrArg some (by kernel_rfl))
  f120 := Tryz.func185.trans (congrArg some (by kernel_rfl))
  f137 := Tryz.func188.trans (congrArg some (by kernel_rfl))
  f151 := Tryz.func174.trans (congrArg some (by kernel_rfl))
  f152 := Tryz.func184.trans (congrArg some (by kernel_rfl))
  f160 := Tryz.func111.trans (congrArg some (by kernel_rfl))
  f197 := Tryz.func161.trans (congrArg some (by kernel_rfl))
  f217 := Tryz.func149.trans (congrArg some (by kernel_rfl))
  f224 := Tryz.func151.trans (congrArg some (by kernel_rfl))
  f225 := Tryz.func150.trans (congrArg some (by kernel_rfl))
  f227 := Tryz.func143.trans (congrArg some (by kernel_rfl))
  f228 := Tryz.func173.trans (congrArg some (by kernel_rfl))
  f231 := Tryz.func141.trans (congrArg some (by kernel_rfl))
  f232 := Tryz.func142.trans (congrArg some (by kernel_rfl))
  f233 := Tryz.func144.trans (congrArg some (by kernel_rfl))
  f234 := Tryz.func145.trans (congrArg some (by kernel_rfl))
  f235 := Tryz.func146.trans (congrArg some (by kernel_rfl))
  f236 := Tryz.func147.trans (congrArg some (by kernel_rfl))
  f260 := Tryz.func181.trans (congrArg some (by kernel_rfl))
  f266 := Tryz.func176.trans (congrArg some (by kernel_rfl))
  f271 := Tryz.func175.trans (congrArg some (by kernel_rfl))
  t0 := Tryz.underlying0
  a0 := Tryz.isAgg0
  z0 := Tryz.sizeOf0
  v0 := Tryz.zeroValue0
  t3 := Tryz.underlying3
  a3 := Tryz.isAgg3
  z3 := Tryz.sizeOf3
  v3 := Tryz.zeroValue3
  t4 := Tryz.underlying4
  a4 := Tryz.isAgg4
  z4 := Tryz.sizeOf4
  v4 := Tryz.zeroValue4
  t5 := Tryz.underlying5
  a5 := Tryz.isAgg5
  z5 := Tryz.sizeOf5
  v5 := Tryz.zeroValue5
  t9 := Tryz.underlying9
  a9 := Tryz.isAgg9
  z9 := Tryz.sizeOf9
  v9 := Tryz.zeroValue9
  t21 := Tryz.underlying21
  a21 := Tryz.isAgg21
  z21 := Tryz.sizeOf21
  v21 := Tryz.zeroValue21
  t46 := Tryz.underlying161
  a46 := Tryz.isAgg161
  z46 := Tryz.sizeOf161
  v46 := Tryz.zeroValue161
  t105 := Tryz.underlying168
  a105 := Tryz.isAgg168
  z105 := Tryz.sizeOf168
  v105 := Tryz.zeroValue168
  t116 := Tryz.underlying154
  a116 := Tryz.isAgg154
  z116 := Tryz.sizeOf154
  t117 := Tryz.underlying155
  a117 := Tryz.isAgg155
  z117 := Tryz.sizeOf155
  v117 := Tryz.zeroValue155
  t119 := Tryz.underlying194
  a119 := Tryz.isAgg194
  z119 := Tryz.sizeOf194
  t124 := Tryz.underlying158
  a124 := Tryz.isAgg158
  z124 := Tryz.sizeOf158
  v124 := Tryz.zeroValue158
  t138 := Tryz.underlying196
  a138 := Tryz.isAgg196
  z138 := Tryz.sizeOf196
  v138 := Tryz.zeroValue196
  t139 := Tryz.underlying197
  a139 := Tryz.isAgg197
  z139 := Tryz.sizeOf197
  v139 := Tryz.zeroValue197
  g3 := by kernel_rfl
  g4 := by kernel_rfl }
open Go.RowKit in
theorem Tryz.Builder_String_any_k (B b : Nat)(l : List UInt8)(w : World)(h : Lib.IsBuilderF 128 5 B b (Lib.byteCells l) w)(hBw : B ≤ w.heap.size) :
    Calls Tryz.prog 106 #[.pointer (some ⟨b, 0, none⟩)] w fun e w' => e = .returned (.string ⟨l.toArray⟩) ∧ (Lib.IsBuilderF 128 5 B b (Lib.byteCells l) w' ∧ Below B w w' ∧ Lib.OthersKept 5 (some b) w w') := Any.Builder_String_any_k Tryz.lays169 Tryz.Builder_Extra_169 B b l w h hBw
def Tryz.laysM171_ren : Go.Shelf.Ren := ⟨fun | 171 => 22 | 243 => 54 | 246 => 102 | 283 => 134 | 284 => 135 | 285 => 136 | 286 => 137 | 129 => 168 | 317 => 167 | 318 => 169 | 319 => 170 | 320 => 171 | 337 => 182 | 338 => 183 | n => n, fun | 3 => 3 | 9 => 9 | 2 => 2 | 4 => 4 | 171 => 145 | 0 => 0 | 53 => 146 | 37 => 22 | 5 => 5 | 173 => 149 | 212 => 172 | 51 => 173 | 20 => 20 | 213 => 174 | 46 => 161 | 232 => 198 | 233 => 199 | n => n, fun | 17 => 1 | 18 => 6 | 19 => 7 | n => n⟩
theorem Tryz.laysM171 : Go.Proofs.LaysM.n171 Tryz.prog Tryz.laysM171_ren := {
  mixed := by kernel_rfl
  f129 := Tryz.func168.trans (congrArg some (by kernel_rfl))
  f171 := Tryz.func22.trans (congrArg some (by kernel_rfl))
  f243 := Tryz.func54.trans (congrArg some (by kernel_rfl))
  f246 := Tryz.func102.trans (congrArg some (by kernel_rfl))
  f283 := Tryz.func134.trans (congrArg some (by kernel_rfl))
  f284 := Tryz.func135.trans (congrArg some (by kernel_rfl))
  f285 := Tryz.func136.trans (congrArg some (by kernel_rfl))
  f286 := Tryz.func137.trans (congrArg some (by kernel_rfl))
  f317 := Tryz.func167.trans (congrArg some (by kernel_rfl))
  f318 := Tryz.func169.trans (congrArg some (by kernel_rfl))
  f319 := Tryz.func170.trans (congrArg some (by kernel_rfl))
  f320 := Tryz.func171.trans (congrArg some (by kernel_rfl))
  f337 := Tryz.func182.trans (congrArg some (by kernel_rfl))
  f338 := Tryz.func183.trans (congrArg some (by kernel_rfl))
  t0 := Tryz.underlying0
  a0 := Tryz.isAgg0
  z0 := Tryz.sizeOf0
  v0 := Tryz.zeroValue0
  t2 := Tryz.underlying2
  a2 := Tryz.isAgg2
  z2 := Tryz.sizeOf2
  v2 := Tryz.zeroValue2
  t3 := Tryz.underlying3
  a3 := Tryz.isAgg3
  z3 := Tryz.sizeOf3
  v3 := Tryz.zeroValue3
  t4 := Tryz.underlying4
  a4 := Tryz.isAgg4
  z4 := Tryz.sizeOf4
  v4 := Tryz.zeroValue4
  t5 := Tryz.underlying5
  a5 := Tryz.isAgg5
  z5 := Tryz.sizeOf5
  v5 := Tryz.zeroValue5
  t9 := Tryz.underlying9
  a9 := Tryz.isAgg9
  z9 := Tryz.sizeOf9
  v9 := Tryz.zeroValue9
  t20 := Tryz.underlying20
  a20 := Tryz.isAgg20
  z20 := Tryz.sizeOf20
  v20 := Tryz.zeroValue20
  t37 := Tryz.underlying22
  a37 := Tryz.isAgg22
  z37 := Tryz.sizeOf22
  v37 := Tryz.zeroValue22
  t46 := Tryz.underlying161
  a46 := Tryz.isAgg161
  z46 := Tryz.sizeOf161
  v46 := Tryz.zeroValue161
  t51 := Tryz.underlying173
  a51 := Tryz.isAgg173
  z51 := Tryz.sizeOf173
  v51 := Tryz.zeroValue173
  t53 := Tryz.underlying146
  a53 := Tryz.isAgg146
  z53 := Tryz.sizeOf146
  v53 := Tryz.zeroValue146
  t171 := Tryz.underlying145
  a171 := Tryz.isAgg145
  z171 := Tryz.sizeOf145
  v171 := Tryz.zeroValue145
  t173 := Tryz.underlying149
  a173 := Tryz.isAgg149
  z173 := Tryz.sizeOf149
  v173 := Tryz.zeroValue149
  t212 := Tryz.underlying172
  a212 := Tryz.isAgg172
  z212 := Tryz.sizeOf172
  v212 := Tryz.zeroValue172
  t213 := Tryz.underlying174
  a213 := Tryz.isAgg174
  z213 := Tryz.sizeOf174
  t232 := Tryz.underlying198
  a232 := Tryz.isAgg198
  z232 := Tryz.sizeOf198
  v232 := Tryz.zeroValue198
  t233 := Tryz.underlying199
  a233 := Tryz.isAgg199
  z233 := Tryz.sizeOf199
  v233 := Tryz.zeroValue199
  g17 := by kernel_rfl
  g18 := by kernel_rfl
  g19 := by kernel_rfl
  i0 := by kernel_rfl
  i2 := by kernel_rfl
  i3 := by kernel_rfl
  i4 := by kernel_rfl
  i5 := by kernel_rfl
  i9 := by kernel_rfl
  i20 := by kernel_rfl
  i37 := by kernel_rfl
  i46 := by kernel_rfl
  i51 := by kernel_rfl
  i53 := by kernel_rfl
  i171 := by kernel_rfl
  i173 := by kernel_rfl
  i212 := by kernel_rfl
  i232 := by kernel_rfl
  i233 := by kernel_rfl
  m17 := by kernel_rfl
  m18 := by kernel_rfl
  m19 := by kernel_rfl }
open Go.RowKit Go.Sort Go.Lib in
theorem Tryz.strconv_Itoa (n : Int) (h0 : -9223372036854775808 ≤ n) (h1 : n ≤ 9223372036854775807) (w : World) (htab : Lib.TabIs Tryz.prog w "internal/strconv.uint64pow10" .u64 Lib.pow10Tab) :
    Calls Tryz.prog 22 #[.int .i64 n] w fun e w' => e = .returned (.string ⟨(Lib.itoa n).toArray⟩) ∧ ∃ k os, w' = grow (w.drewN k) os := Any.strconv_Itoa Tryz.laysM171 n h0 h1 w htab
def Tryz.laysC172_ren : Go.Shelf.Ren := ⟨fun | 172 => 71 | 244 => 117 | 245 => 118 | 247 => 153 | 279 => 154 | 280 => 155 | 281 => 156 | 282 => 157 | 287 => 178 | 316 => 179 | 171 => 22 | 205 => 180 | 321 => 186 | 322 => 187 | 243 => 54 | 246 => 102 | 283 => 134 | 284 => 135 | 285 => 136 | 286 => 137 | 129 => 168 | 317 => 167 | 318 => 169 | 319 => 170 | 320 => 171 | 337 => 182 | 338 => 183 | n => n, fun | 9 => 9 | 3 => 3 | 75 => 90 | 76 => 91 | 4 => 4 | 5 => 5 | 167 => 162 | 37 => 22 | 0 => 0 | 85 => 163 | 2 => 2 | 168 => 165 | 53 => 146 | 175 => 182 | 46 => 161 | 210 => 186 | 127 => 151 | 145 => 193 | 143 => 191 | 21 => 21 | 171 => 145 | 173 => 149 | 212 => 172 | 51 => 173 | 20 => 20 | 213 => 174 | 232 => 198 | 233 => 199 | 80 => 52 | n => n, fun | 15 => 2 | 16 => 3 | 17 => 1 | 18 => 6 | 19 => 7 | n => n⟩
theorem Tryz.laysC172 : Go.Proofs.LaysC.n172 Tryz.prog Tryz.laysC172_ren := {
  mixed := by kernel_rfl
  f129 := Tryz.func168.trans (congrArg some (by kernel_rfl))
  f171 := Tryz.func22.trans (congrArg some (by kernel_rfl))
  f172 := Tryz.func71.trans (congrArg some (by kernel_rfl))
  f205 := Tryz.func180.trans (congrArg some (by kernel_rfl))
  f243 := Tryz.func54.trans (congrArg some (by kernel_rfl))
  f244 := Tryz.func117.trans (congrArg some (by kernel_rfl))
  f245 := Tryz.func118.trans (congrArg some (by kernel_rfl))
  f246 := Tryz.func102.trans (congrArg some (by kernel_rfl))
  f247 := Tryz.func153.trans (congrArg some (by kernel_rfl))
  f279 := Tryz.func154.trans (congrArg some (by kernel_rfl))
  f280 := Tryz.func155.trans (congrArg some (by kernel_rfl))
  f281 := Tryz.func156.trans (congrArg some (by kernel_rfl))
  f282 := Tryz.func157.trans (congrArg some (by kernel_rfl))
  f283 := Tryz.func134.trans (congrArg some (by kernel_rfl))
  f284 := Tryz.func135.trans (congrArg some (by kernel_rfl))
  f285 := Tryz.func136.trans (congrArg some (by kernel_rfl))
  f286 := Tryz.func137.trans (congrArg some (by kernel_rfl))
  f287 := Tryz.func178.trans (congrArg some (by kernel_rfl))
  f316 := Tryz.func179.trans (congrArg some (by kernel_rfl))
  f317 := Tryz.func167.trans (congrArg some (by kernel_rfl))
  f318 := Tryz.func169.trans (congrArg some (by kernel_rfl))
  f319 := Tryz.func170.trans (congrArg some (by kernel_rfl))
  f320 := Tryz.func171.trans (congrArg some (by kernel_rfl))
  f321 := Tryz.func186.trans (congrArg some (by kernel_rfl))
  f322 := Tryz.func187.trans (congrArg some (by kernel_rfl))
  f337 := Tryz.func182.trans (congrArg some (by kernel_rfl))
  f338 := Tryz.func183.trans (congrArg some (by kernel_rfl))
  t0 := Tryz.underlying0
  a0 := Tryz.isAgg0
  z0 := Tryz.sizeOf0
  v0 := Tryz.zeroValue0
  t2 := Tryz.underlying2
  a2 := Tryz.isAgg2
  z2 := Tryz.sizeOf2
  v2 := Tryz.zeroValue2
  t3 := Tryz.underlying3
  a3 := Tryz.isAgg3
  z3 := Tryz.sizeOf3
  v3 := Tryz.zeroValue3
  t4 := Tryz.underlying4
  a4 := Tryz.isAgg4
  z4 := Tryz.sizeOf4
  v4 := Tryz.zeroValue4
  t5 := Tryz.underlying5
  a5 := Tryz.isAgg5
  z5 := Tryz.sizeOf5
  v5 := Tryz.zeroValue5
  t9 := Tryz.underlying9
  a9 := Tryz.isAgg9
  z9 := Tryz.sizeOf9
  v9 := Tryz.zeroValue9
  t20 := Tryz.underlying20
  a20 := Tryz.isAgg20
  z20 := Tryz.sizeOf20
  v20 := Tryz.zeroValue20
  t21 := Tryz.underlying21
  a21 := Tryz.isAgg21
  z21 := Tryz.sizeOf21
  v21 := Tryz.zeroValue21
  t37 := Tryz.underlying22
  a37 := Tryz.isAgg22
  z37 := Tryz.sizeOf22
  v37 := Tryz.zeroValue22
  t46 := Tryz.underlying161
  a46 := Tryz.isAgg161
  z46 := Tryz.sizeOf161
  v46 := Tryz.zeroValue161
  t51 := Tryz.underlying173
  a51 := Tryz.isAgg173
  z51 := Tryz.sizeOf173
  v51 := Tryz.zeroValue173
  t53 := Tryz.underlying146
  a53 := Tryz.isAgg146
  z53 := Tryz.sizeOf146
  v53 := Tryz.zeroValue146
  t75 := Tryz.underlying90
  a75 := Tryz.isAgg90
  z75 := Tryz.sizeOf90
  v75 := Tryz.zeroValue90
  t76 := Tryz.underlying91
  a76 := Tryz.isAgg91
  z76 := Tryz.sizeOf91
  v76 := Tryz.zeroValue91
  t85 := Tryz.underlying163
  a85 := Tryz.isAgg163
  z85 := Tryz.sizeOf163
  v85 := Tryz.zeroValue163
  t127 := Tryz.underlying151
  a127 := Tryz.isAgg151
  z127 := Tryz.sizeOf151
  v127 := Tryz.zeroValue151
  t143 := Tryz.underlying191
  a143 := Tryz.isAgg191
  z143 := Tryz.sizeOf191
  v143 := Tryz.zeroValue191
  t145 := Tryz.underlying193
  a145 := Tryz.isAgg193
  z145 := Tryz.sizeOf193
  v145 := Tryz.zeroValue193
  t167 := Tryz.underlying162
  a167 := Tryz.isAgg162
  z167 := Tryz.sizeOf162
  v167 := Tryz.zeroValue162
  t168 := Tryz.underlying165
  a168 := Tryz.isAgg165
  z168 := Tryz.sizeOf165
  v168 := Tryz.zeroValue165
  t171 := Tryz.underlying145
  a171 := Tryz.isAgg145
  z171 := Tryz.sizeOf145
  v171 := Tryz.zeroValue145
  t173 := Tryz.underlying149
  a173 := Tryz.isAgg149
  z173 := Tryz.sizeOf149
  v173 := Tryz.zeroValue149
  t175 := Tryz.underlying182
  a175 := Tryz.isAgg182
  z175 := Tryz.sizeOf182
  v175 := Tryz.zeroValue182
  t210 := Tryz.underlying186
  a210 := Tryz.isAgg186
  z210 := Tryz.sizeOf186
  v210 := Tryz.zeroValue186
  t212 := Tryz.underlying172
  a212 := Tryz.isAgg172
  z212 := Tryz.sizeOf172
  v212 := Tryz.zeroValue172
  t213 := Tryz.underlying174
  a213 := Tryz.isAgg174
  z213 := Tryz.sizeOf174
  t232 := Tryz.underlying198
  a232 := Tryz.isAgg198
  z232 := Tryz.sizeOf198
  v232 := Tryz.zeroValue198
  t233 := Tryz.underlying199
  a233 := Tryz.isAgg199
  z233 := Tryz.sizeOf199
  v233 := Tryz.zeroValue199
  g15 := by kernel_rfl
  g16 := by kernel_rfl
  g17 := by kernel_rfl
  g18 := by kernel_rfl
  g19 := by kernel_rfl
  t80 := Tryz.underlying52
  a80 := Tryz.isAgg52
  z80 := Tryz.sizeOf52
  v80 := Tryz.zeroValue52
  i0 := by kernel_rfl
  i2 := by kernel_rfl
  i3 := by kernel_rfl
  i4 := by kernel_rfl
  i5 := by kernel_rfl
  i9 := by kernel_rfl
  i20 := by kernel_rfl
  i21 := by kernel_rfl
  i37 := by kernel_rfl
  i46 := by kernel_rfl
  i51 := by kernel_rfl
  i53 := by kernel_rfl
  i75 := by kernel_rfl
  i76 := by kernel_rfl
  i80 := by kernel_rfl
  i85 := by kernel_rfl
  i127 := by kernel_rfl
  i143 := by kernel_rfl
  i145 := by kernel_rfl
  i167 := by kernel_rfl
  i168 := by kernel_rfl
  i171 := by kernel_rfl
  i173 := by kernel_rfl
  i175 := by kernel_rfl
  i210 := by kernel_rfl
  i212 := by kernel_rfl
  i232 := by kernel_rfl
  i233 := by kernel_rfl
  m15 := by kernel_rfl
  m16 := by kernel_rfl
  m17 := by kernel_rfl
  m18 := by kernel_rfl
  m19 := by kernel_rfl
  c0 := by kernel_rfl
  c2 := by kernel_rfl
  c3 := by kernel_rfl
  c4 := by kernel_rfl
  c5 := by kernel_rfl
  c9 := by kernel_rfl
  c20 := by kernel_rfl
  c21 := by kernel_rfl
  c37 := by kernel_rfl
  c46 := by kernel_rfl
  c51 := by kernel_rfl
  c53 := by kernel_rfl
  c75 := by kernel_rfl
  c76 := by kernel_rfl
  c80 := by kernel_rfl
  c85 := by kernel_rfl
  c127 := by kernel_rfl
  c143 := by kernel_rfl
  c145 := by kernel_rfl
  c167 := by kernel_rfl
  c168 := by kernel_rfl
  c171 := by kernel_rfl
  c173 := by kernel_rfl
  c175 := by kernel_rfl
  c210 := by kernel_rfl
  c212 := by kernel_rfl
  c213 := by kernel_rfl
  c232 := by kernel_rfl
  c233 := by kernel_rfl }
open Go.RowKit in
theorem Tryz.strconv_Atoi_ok (s : ByteArray)(hmax : s.size ≤ 9223372036854775806)(v : Int)(h : Lib.atoiAll s.data.toList = .ok v)(w : World) :
    Calls Tryz.prog 71 #[.string s] w fun e w' => e = .returned (.tuple #[.int .i64 v, .nilIface]) ∧ (w' = w ∨ ∃ t, w' = Lib.bytesWorld w 5 t) := Any.strconv_Atoi_ok Tryz.laysC172 s hmax v h w
open Go.RowKit in
theorem Tryz.strconv_Atoi_syntax (s : ByteArray)(hlim : s.size ≤ 281474976710656)(h : match Lib.atoiAll s.data.toList with | .ok _ => False | .range => False | _ => True)(ev : Value)(w : World)(hv : w.cell? ⟨2, 0, none⟩ = some ev)(hev : ev = .nilIface ∨ ∃ te pe, ev = .iface te pe) :
    Calls Tryz.prog 71 #[.string s] w fun e w' => ∃ N, e = .returned (.tuple #[.int .i64 (0), .iface 165 (.pointer (some ⟨N, 0, none⟩))]) ∧ w.heap.size ≤ N ∧ w'.heap[N]? = some (.cells #[.string ⟨#[65, 116, 111, 105]⟩, .string s, ev] 186 (0, 0)) ∧ Below w.heap.size w w' := Any.strconv_Atoi_syntax Tryz.laysC172 s hlim (by revert h; cases Lib.atoiAll s.data.toList <;> intro h <;> first | rfl | exact h.elim) ev w hv hev
open Go.RowKit in
theorem Tryz.strconv_Atoi_range (s : ByteArray)(hlim : s.size ≤ 281474976710656)(h : Lib.atoiAll s.data.toList = .range)(ev : Value)(w : World)(hv : w.cell? ⟨3, 0, none⟩ = some ev)(hev : ev = .nilIface ∨ ∃ te pe, ev = .iface te pe) :
    Calls Tryz.prog 71 #[.string s] w fun e w' => ∃ N, e = .returned (.tuple #[.int .i64 (Lib.atoiSat s.data.toList), .iface 165 (.pointer (some ⟨N, 0, none⟩))]) ∧ w.heap.size ≤ N ∧ w'.heap[N]? = some (.cells #[.string ⟨#[65, 116, 111, 105]⟩, .string s, ev] 186 (0, 0)) ∧ Below w.heap.size w w' := Any.strconv_Atoi_range Tryz.laysC172 s hlim h ev w hv hev
def Tryz.lays145_ren : Go.Shelf.Ren := ⟨fun | 145 => 33 | 220 => 70 | 219 => 116 | 217 => 149 | 225 => 150 | 224 => 151 | 267 => 152 | 266 => 176 | 314 => 177 | n => n, fun | 9 => 9 | 4 => 4 | 59 => 58 | 3 => 3 | 5 => 5 | 46 => 161 | 146 => 180 | 51 => 173 | n => n, fun | 1 => 0 | n => n⟩
theorem Tryz.lays145 : Go.Proofs.Lays.n145 Tryz.prog Tryz.lays145_ren := {
  mixed := by kernel_rfl
  f145 := Tryz.func33.trans (congrArg some (by kernel_rfl))
  f217 := Tryz.func149.trans (congrArg some (by kernel_rfl))
  f219 := Tryz.func116.trans (congrArg some (by kernel_rfl))
  f220 := Tryz.func70.trans (congrArg some (by kernel_rfl))
  f224 := Tryz.func151.trans (congrArg some (by kernel_rfl))
  f225 := Tryz.func150.trans (congrArg some (by kernel_rfl))
  f266 := Tryz.func176.trans (congrArg some (by kernel_rfl))
  f267 := Tryz.func152.trans (congrArg some (by kernel_rfl))
  f314 := Tryz.func177.trans (congrArg some (by kernel_rfl))
  t3 := Tryz.underlying3
  a3 := Tryz.isAgg3
  z3 := Tryz.sizeOf3
  v3 := Tryz.zeroValue3
  t4 := Tryz.underlying4
  a4 := Tryz.isAgg4
  z4 := Tryz.sizeOf4
  v4 := Tryz.zeroValue4
  t5 := Tryz.underlying5
  a5 := Tryz.isAgg5
  z5 := Tryz.sizeOf5
  v5 := Tryz.zeroValue5
  t9 := Tryz.underlying9
  a9 := Tryz.isAgg9
  z9 := Tryz.sizeOf9
  v9 := Tryz.zeroValue9
  t46 := Tryz.underlying161
  a46 := Tryz.isAgg161
  z46 := Tryz.sizeOf161
  v46 := Tryz.zeroValue161
  t51 := Tryz.underlying173
  a51 := Tryz.isAgg173
  z51 := Tryz.sizeOf173
  v51 := Tryz.zeroValue173
  t59 := Tryz.underlying58
  a59 := Tryz.isAgg58
  z59 := Tryz.sizeOf58
  v59 := Tryz.zeroValue58
  t146 := Tryz.underlying180
  a146 := Tryz.isAgg180
  z146 := Tryz.sizeOf180
  v146 := Tryz.zeroValue180
  g1 := by kernel_rfl }
open Go.RowKit Go.Lib in
theorem Tryz.strings_Cut (s sep : ByteArray)(m : Int)(w : World)(hs : s.size<4294967281)(hm : w.cell? ⟨0, 0, none⟩ = some (.int .i64 m)) :
    Calls Tryz.prog 33 #[.string s, .string sep] w fun e w' => e = .returned (.tuple #[.string ⟨(Lib.cut s.data.toList sep.data.toList).1.toArray⟩, .string ⟨(Lib.cut s.data.toList sep.data.toList).2.1.toArray⟩, .bool (Lib.cut s.data.toList sep.data.toList).2.2]) ∧ ∃ n, w' = w.drewN n := Any.strings_Cut Tryz.lays145 s sep m w hs hm
def Tryz.lays99_ren : Go.Shelf.Ren := ⟨fun | 99 => 103 | 206 => 138 | n => n, fun | 9 => 9 | 4 => 4 | 3 => 3 | n => n, fun | n => n⟩
theorem Tryz.lays99 : Go.Proofs.Lays.n99 Tryz.prog Tryz.lays99_ren := {
  mixed := by kernel_rfl
  f99 := Tryz.func103.trans (congrArg some (by kernel_rfl))
  f206 := Tryz.func138.trans (congrArg some (by kernel_rfl))
  t3 := Tryz.underlying3
  a3 := Tryz.isAgg3
  z3 := Tryz.sizeOf3
  v3 := Tryz.zeroValue3
  t4 := Tryz.underlying4
  a4 := Tryz.isAgg4
  z4 := Tryz.sizeOf4
  v4 := Tryz.zeroValue4
  t9 := Tryz.underlying9
  a9 := Tryz.isAgg9
  z9 := Tryz.sizeOf9
  v9 := Tryz.zeroValue9 }
open Go.RowKit Go.Lib in
theorem Tryz.strings_HasPrefix (s p : ByteArray)(w : World) :
    Calls Tryz.prog 103 #[.string s, .string p] w fun e w' => e = .returned (.bool (Lib.hasPrefix s.data.toList p.data.toList)) ∧ w' = w := Any.strings_HasPrefix Tryz.lays99 s p w
def Tryz.lays146_ren : Go.Shelf.Ren := ⟨fun | 146 => 36 | 221 => 73 | 268 => 122 | 138 => 123 | 143 => 124 | 195 => 160 | 197 => 161 | 218 => 162 | 219 => 116 | 260 => 181 | 217 => 149 | 225 => 150 | 224 => 151 | 267 => 152 | 266 => 176 | 314 => 177 | n => n, fun | 9 => 9 | 31 => 26 | 3 => 3 | 4 => 4 | 0 => 0 | 105 => 168 | 21 => 21 | 5 => 5 | 46 => 161 | 119 => 194 | 139 => 197 | 138 => 196 | 146 => 180 | 51 => 173 | n => n, fun | 1 => 0 | 3 => 4 | 4 => 5 | n => n⟩
theorem Tryz.lays146 : Go.Proofs.Lays.n146 Tryz.prog Tryz.lays146_ren := {
  mixed := by kernel_rfl
  f138 := Tryz.func123.trans (congrArg some (by kernel_rfl))
  f143 := Tryz.func124.trans (congrArg some (by kernel_rfl))
  f146 := Tryz.func36.trans (congrArg some (by kernel_rfl))
  f195 := Tryz.func160.trans (congrArg some (by kernel_rfl))
  f197 := Tryz.func161.trans (congrArg some (by kernel_rfl))
  f217 := Tryz.func149.trans (congrArg some (by kernel_rfl))
  f218 := Tryz.func162.trans (congrArg some (by kernel_rfl))
  f219 := Tryz.func116.trans (congrArg some (by kernel_rfl))
  f221 := Tryz.func73.trans (congrArg some (by kernel_rfl))
  f224 := Tryz.func151.trans (congrArg some (by kernel_rfl))
  f225 := Tryz.func150.trans (congrArg some (by kernel_rfl))
  f260 := Tryz.func181.trans (congrArg some (by kernel_rfl))
  f266 := Tryz.func176.trans (congrArg some (by kernel_rfl))
  f267 := Tryz.func152.trans (congrArg some (by kernel_rfl))
  f268 := Tryz.func122.trans (congrArg some (by kernel_rfl))
  f314 := Tryz.func177.trans (congrArg some (by kernel_rfl))
  t0 := Tryz.underlying0
  a0 := Tryz.isAgg0
  z0 := Tryz.sizeOf0
  v0 := Tryz.zeroValue0
  t3 := Tryz.underlying3
  a3 := Tryz.isAgg3
  z3 := Tryz.sizeOf3
  v3 := Tryz.zeroValue3
  t4 := Tryz.underlying4
  a4 := Tryz.isAgg4
  z4 := Tryz.sizeOf4
  v4 := Tryz.zeroValue4
  t5 := Tryz.underlying5
  a5 := Tryz.isAgg5
  z5 := Tryz.sizeOf5
  v5 := Tryz.zeroValue5
  t9 := Tryz.underlying9
  a9 := Tryz.isAgg9
  z9 := Tryz.sizeOf9
  v9 := Tryz.zeroValue9
  t21 := Tryz.underlying21
  a21 := Tryz.isAgg21
  z21 := Tryz.sizeOf21
  v21 := Tryz.zeroValue21
  t31 := Tryz.underlying26
  a31 := Tryz.isAgg26
  z31 := Tryz.sizeOf26
  v31 := Tryz.zeroValue26
  t46 := Tryz.underlying161
  a46 := Tryz.isAgg161
  z46 := Tryz.sizeOf161
  v46 := Tryz.zeroValue161
  t51 := Tryz.underlying173
  a51 := Tryz.isAgg173
  z51 := Tryz.sizeOf173
  v51 := Tryz.zeroValue173
  t105 := Tryz.underlying168
  a105 := Tryz.isAgg168
  z105 := Tryz.sizeOf168
  v105 := Tryz.zeroValue168
  t119 := Tryz.underlying194
  a119 := Tryz.isAgg194
  z119 := Tryz.sizeOf194
  t138 := Tryz.underlying196
  a138 := Tryz.isAgg196
  z138 := Tryz.sizeOf196
  v138 := Tryz.zeroValue196
  t139 := Tryz.underlying197
  a139 := Tryz.isAgg197
  z139 := Tryz.sizeOf197
  v139 := Tryz.zeroValue197
  t146 := Tryz.underlying180
  a146 := Tryz.isAgg180
  z146 := Tryz.sizeOf180
  v146 := Tryz.zeroValue180
  g1 := by kernel_rfl
  g3 := by kernel_rfl
  g4 := by kernel_rfl }
open Go.RowKit Go.Lib in
theorem Tryz.strings_Split (s sep : ByteArray)(m : Int)(w : World)(hs : s.size<4294967281)(hm : w.cell? ⟨0, 0, none⟩ = some (.int .i64 m))(h1 : 1 ≤ sep.size) :
    Calls Tryz.prog 36 #[.string s, .string sep] w fun e w' =>
      e = .returned (.slice (some ⟨w.heap.size, 0, none⟩) (Lib.countB s sep + 1) (Lib.countB s sep + 1)) ∧ w' = w.alloc (.cells ((Lib.splitB sep 0 (Lib.countB s sep) s).map Value.string).toArray 9) := Any.strings_Split Tryz.lays146 (by kernel_rfl) s sep m w hs hm h1
end Go.Proofs
namespace Go.Proofs.YtjdpdkdhfnpcgaaGreatDoor.Q
open Go.RowKit Go.Proofs.YtjdpdkdhfnpcgaaGreatDoorW.PrintWords Go.Proofs.YtjdpdkdhfnpcgaaGreatDoorW.PrintLast Go.Proofs.YtjdpdkdhfnpcgaaGreatDoorW.PrintMore
set_option linter.unusedVariables false
def GOK (w : World) : Prop := (∃ m, w.cell? ⟨0, 0, none⟩ = some (.int .i64 m)) ∧ Lib.TabIs Tryz.prog w "internal/strconv.uint64pow10" .u64 Lib.pow10Tab
theorem GOK.drewN {w : World}(h : GOK w)(n : Nat) : GOK (w.drewN n) := h
theorem GOK.drew {w : World}(h : GOK w) : GOK w.drew := h
theorem GOK.below {w w' : World}(h : GOK w)(hb : Below w.heap.size w w') : GOK w' := by
  obtain⟨⟨m, hm⟩, ht⟩ := h
  exact⟨⟨m, pw_cell_below hb hm⟩, Lib.tabBelow_of_tabIs ht w' hb⟩
def GOKE (w : World) : Prop := GOK w ∧ (∃ tp p, w.cell? ⟨2, 0, none⟩ = some (.iface tp p)) ∧ (∃ tp p, w.cell? ⟨3, 0, none⟩ = some (.iface tp p))
theorem GOKE.drewN {w : World}(h : GOKE w)(n : Nat) : GOKE (w.drewN n) := h
theorem GOKE.drew {w : World}(h : GOKE w) : GOKE w.drew := h
theorem GOKE.weak {w : World}(h : GOKE w) : GOK w := h.1
theorem GOKE.below {w w' : World}(h : GOKE w)(hb : Below w.heap.size w w') : GOKE w' := by
  obtain⟨h0, ⟨t1, p1, h1⟩, ⟨t2, p2, h2⟩⟩ := h
  exact⟨h0.below hb, ⟨t1, p1, pw_cell_below hb h1⟩, ⟨t2, p2, pw_cell_below hb h2⟩⟩
theorem GOK.len {w : World}(h : GOK w) : ∃ m, w.cell? ⟨0, 0, none⟩ = some (.int .i64 m) := h.1
def splitL (s sep : ByteArray) : List ByteArray := Lib.splitB sep 0 (Lib.countB s sep) s
def yaF.f (a0 a1 : ByteArray) : Option (List ByteArray) := if a0.size<4294967281 ∧ 1 ≤ a1.size ∧ (splitL a0 a1).length ≤ 1099511627776 then some (splitL a0 a1)else none
theorem yaF.calls (a0 a1 : ByteArray)(r : List ByteArray)(w : World)(hG : GOK w)(h : yaF.f a0 a1 = some r) :
    Calls Tryz.prog 36 #[.string a0, .string a1] w fun e w' => ∃ v0_ : Value, e = .returned (v0_) ∧ Kd.R Kd.string 9 w' w.heap.size (fun _ => True) v0_ r ∧ Below w.heap.size w w' := by
  unfold yaF.f at h
  split at h
  · rename_i hs
    obtain⟨m, hm⟩ := hG.len
    injection h with h
    subst h
    have hl : (splitL a0 a1).length = Lib.countB a0 a1 + 1 := Lib.splitB_all a1 hs.2.1 0 _ a0 rfl
    refine(Tryz.strings_Split a0 a1 m w hs.1 hm hs.2.1).mono ?_
    rintro e w' ⟨rfl, rfl⟩
    refine⟨_, rfl, ⟨fun _ _ => trivial, encs Value.string (splitL a0 a1), ?_, Kd.reps_scalar _⟩, (Below.refl _ w).alloc (Nat.le_refl _) _⟩
    have := own_lit_of (enc := Value.string) w w.heap.size 9 (splitL a0 a1) (Nat.le_refl _) (by omega)
    rw[← hl]
    exact this
  · cases h
def asciiB (l : List UInt8) : Bool := l.all (fun b => decide (b.toNat<128))
def ybq.f (a0 a1 : ByteArray) : Option ByteArray := if a0.size ≤ 9223372036854775807 ∧ a1.size<4294967281 ∧ asciiB a1.data.toList = true then some ⟨(Lib.trimS a0.data.toList a1.data.toList).toArray⟩else none
theorem ybq.calls (a0 a1 : ByteArray)(r : ByteArray)(w : World)(h : ybq.f a0 a1 = some r) :
    Calls Tryz.prog 111 #[.string a0, .string a1] w fun e w' => e = .returned (.string r) ∧ Below w.heap.size w w' := by
  unfold ybq.f at h
  split at h
  · rename_i hs
    injection h with h
    subst h
    exact Any.strings_Trim_laid Tryz.lays160 (by kernel_rfl) a0 a1 w hs.1 hs.2.1 (ascii_of_all hs.2.2)
  · cases h
def yaj.f (a0 a1 : ByteArray) : Option (ByteArray × ByteArray × Bool) :=
  if a0.size<4294967281 then some (⟨(Lib.cut a0.data.toList a1.data.toList).1.toArray⟩, ⟨(Lib.cut a0.data.toList a1.data.toList).2.1.toArray⟩, (Lib.cut a0.data.toList a1.data.toList).2.2)else none
theorem yaj.calls (a0 a1 : ByteArray)(r1 r2 : ByteArray)(r3 : Bool)(w : World)(hG : GOK w)(h : yaj.f a0 a1 = some (r1, r2, r3)) :
    Calls Tryz.prog 33 #[.string a0, .string a1] w fun e w' => e = .returned (.tuple #[.string r1, .string r2, .bool r3]) ∧ Drawn0 w w' := by
  unfold yaj.f at h
  split at h
  · rename_i hs
    obtain⟨m, hm⟩ := hG.len
    injection h with h
    injection h with h1 h
    injection h with h2 h3
    subst h1 h2 h3
    refine(Tryz.strings_Cut a0 a1 m w hs hm).mono ?_
    rintro e w' ⟨rfl, n, rfl⟩
    exact⟨rfl, ⟨⟨n, rfl⟩⟩⟩
  · cases h
end Go.Proofs.YtjdpdkdhfnpcgaaGreatDoor.Q
namespace Go.Proofs.YtjdpdkdhfnpcgaaGreatDoor.Q
open Go.RowKit Go.Proofs.YtjdpdkdhfnpcgaaGreatDoorW.PrintWords Go.Proofs.YtjdpdkdhfnpcgaaGreatDoorW.PrintLast Go.Proofs.YtjdpdkdhfnpcgaaGreatDoorW.PrintMore
attribute [local go_sem] max2_int min2_int max_two min_two max_three min_three max_four min_four
set_option linter.unusedVariables false
set_option linter.unusedSimpArgs false
attribute [local go_sem high] eqA24
def ya3.f (k:Nat)(ag:Int)(ai:Int)(aM:ByteArray)(bf:ByteArray)(bj:Int)(bg:ByteArray)(bh:ByteArray)(aN:List (S24))(aQ:List ByteArray):Option (ByteArray):=(yaZ.f k ag ai aM bf bj bg bh aN aQ).bind fun ma=>(if ma=true then((yak.f k ag ai aM bf bj bg bh aN aQ).bind fun kw=>(some kw))else(some (⟨#[]⟩:ByteArray)))
theorem ya3.calls (k:Nat)(ag:Int)(ai:Int)(aM:ByteArray)(bf:ByteArray)(bj:Int)(bg:ByteArray)(bh:ByteArray)(cm:Option Addr)(cn:Nat)(aN:List (S24))(co:Option Addr)(cp:Nat)(aQ:List ByteArray)(r:ByteArray)(w:World)(fF:Kd.C k24 w cm aN.length aN)(fG:aN.length≤cn)(fH:Kd.C Kd.string w co aQ.length aQ)(fI:aQ.length≤cp)(h:ya3.f k ag ai aM bf bj bg bh aN aQ=some r) :
 Calls Tryz.prog 9 #[.agg #[.int .i64 ag,.int .i64 ai,.string aM,.string bf,.int .i64 bj,.string bg,.string bh,.slice cm aN.length cn,.slice co aQ.length cp]] w fun e w'=>e=.returned (.string r)∧Below w.heap.size w w':=by
 have hu30:=Tryz.underlying30;have eL:=zA fF;have eM:=zA fG;clear fF fG;have eN:=zA fH;have eO:=zA fI;clear fH fI;have HB:=zA (Below.refl w.heap.size w);have H:=h;clear h;unfold ya3.f at H;replace H:=zM H;obtain⟨ma,A2,H⟩:=H;replace H:=zb H;obtain⟨rfl,H⟩|⟨rfl,H⟩:=H
 ·obtain rfl:=zs H;go_enter Tryz.func9,Tryz.ntmps9;(go_wp2_with (first|((with_reducible refine zq5 (N:=1) rfl ?_);refine zE (N:=1) (cs:=#[.int .i64 ag,.int .i64 ai,.string aM,.string bf,.int .i64 bj,.string bg,.string bh,.slice cm aN.length cn,.slice co aQ.length cp]) (t:=30) ?_;intro jT hg et hbox hb;have fq:=zA hbox;have vG:=zA (zS hg:w.heap.size≤jT);have vH:=zA (zS hg:w.heap.size≤jT);replace HB:=zA (zq1 zB hb);clear hb hbox hg;obtain⟨_,_,_,_,_,_,_,_,_⟩:=zc9 fq.out;obtain⟨_,_,_,_,_,_,_,_,_⟩:=zf9 fq.out)|((with_reducible refine zq3 (f:=25) rfl ?_);refine zq7 (some 4) rfl rfl Tryz.func25 zY2 rfl #[.agg #[.int .i64 ag,.int .i64 ai,.string aM,.string bf,.int .i64 bj,.string bg,.string bh,.slice cm aN.length cn,.slice co aQ.length cp]] rfl zY0 ?_;(with_reducible refine(yaZ.calls k ag ai aM bf bj bg bh _ _ aN _ _ aQ false _ ?side1 ?side2 ?side3 ?side4 A2.out).mono ?_);(case side1=>exact zC (Kd.z0 eL.out HB.out));(case side2=>exact eM.out);(case side3=>exact zC (Kd.z0 eN.out HB.out));(case side4=>exact eO.out);rintro e ew ⟨rfl,hb⟩;refine⟨_,rfl,?_⟩;replace fq:=zA (zq2 (zK fq.out) hb);replace HB:=zA (zq1 zB hb);clear hb)));go_ret;exact⟨zT,zB⟩
 replace H:=zM H;obtain⟨kw,A4,H⟩:=H;obtain rfl:=zs H;go_enter Tryz.func9,Tryz.ntmps9;go_wp2_with (first|((with_reducible refine zq5 (N:=1) rfl ?_);refine zE (N:=1) (cs:=#[.int .i64 ag,.int .i64 ai,.string aM,.string bf,.int .i64 bj,.string bg,.string bh,.slice cm aN.length cn,.slice co aQ.length cp]) (t:=30) ?_;intro jT hg w5 hbox hb;have fq:=zA hbox;have vG:=zA (zS hg:w.heap.size≤jT);have vH:=zA (zS hg:w.heap.size≤jT);replace HB:=zA (zq1 zB hb);clear hb hbox hg;obtain⟨_,_,_,_,_,_,_,_,_⟩:=zc9 fq.out;obtain⟨_,_,_,_,_,_,_,_,_⟩:=zf9 fq.out)|((with_reducible refine zq3 (f:=25) rfl ?_);refine zq7 (some 4) rfl rfl Tryz.func25 zY2 rfl #[.agg #[.int .i64 ag,.int .i64 ai,.string aM,.string bf,.int .i64 bj,.string bg,.string bh,.slice cm aN.length cn,.slice co aQ.length cp]] rfl zY0 ?_;(with_reducible refine(yaZ.calls k ag ai aM bf bj bg bh _ _ aN _ _ aQ true _ ?side1 ?side2 ?side3 ?side4 A2.out).mono ?_);(case side1=>exact zC (Kd.z0 eL.out HB.out));(case side2=>exact eM.out);(case side3=>exact zC (Kd.z0 eN.out HB.out));(case side4=>exact eO.out);rintro e w7 ⟨rfl,hb⟩;refine⟨_,rfl,?_⟩;replace fq:=zA (zq2 (zK fq.out) hb);replace HB:=zA (zq1 zB hb);clear hb;obtain⟨_,_,_,_,_,_,_,_,_⟩:=zc9 fq.out;obtain⟨_,_,_,_,_,_,_,_,_⟩:=zf9 fq.out)|((with_reducible refine zq3 (f:=26) rfl ?_);refine zq7 (some 7) rfl rfl Tryz.func26 zY2 rfl #[.agg #[.int .i64 ag,.int .i64 ai,.string aM,.string bf,.int .i64 bj,.string bg,.string bh,.slice cm aN.length cn,.slice co aQ.length cp]] rfl zY0 ?_;(with_reducible refine(yak.calls k ag ai aM bf bj bg bh _ _ aN _ _ aQ kw _ ?side1 ?side2 ?side3 ?side4 A4.out).mono ?_);(case side1=>exact zC (Kd.z0 eL.out HB.out));(case side2=>exact eM.out);(case side3=>exact zC (Kd.z0 eN.out HB.out));(case side4=>exact eO.out);rintro e w9 ⟨rfl,hb⟩;refine⟨_,rfl,?_⟩;replace fq:=zA (zq2 (zK fq.out) hb);replace HB:=zA (zq1 zB hb);clear hb))
 go_ret;exact⟨zT,zB⟩
def yaK.f (a0:Int)(a1:Int)(a2:Int):Option (Bool):=if a0≥a1 then(some (decide (a0≤a2)))else(some false)
theorem yaK.calls (a0:Int)(a1:Int)(a2:Int)(r:Bool)(w:World)(h:yaK.f a0 a1 a2=some r) :
 Calls Tryz.prog 27 #[.int .i64 a0,.int .i64 a1,.int .i64 a2] w fun e w'=>e=.returned (.bool r)∧Drawn0 w w':=by
 have H:=h;clear h;unfold yaK.f at H;obtain⟨c4b0,H⟩|⟨c4b0,H⟩:=zh H zkEg zkENg
 ·obtain rfl:=zs H;go_enter Tryz.func27,Tryz.ntmps27;go_wp2;go_ret;exact⟨by first|rfl|(simp;done)|(simp[*];done),by repeat(first|exact Drawn0.refl _|apply Drawn0.step)⟩
 obtain rfl:=zs H;go_enter Tryz.func27,Tryz.ntmps27;go_wp2;go_ret;exact⟨by first|rfl|(simp;done)|(simp[*];done),by repeat(first|exact Drawn0.refl _|apply Drawn0.step)⟩
def ya6.f (a0:ByteArray):Option (Bool):=(yaK.f (a0.size:Int) 1 8).bind fun dm=>(if dm=true then((ybq.f a0 (⟨#[97,98,99,100,101,102,103,104,105,106,107,108,109,110,111,112,113,114,115,116,117,118,119,120,121,122,48,49,50,51,52,53,54,55,56,57]⟩:ByteArray)).bind fun eZ=>(some (eZ.toList==([]:List UInt8))))else(some false))
theorem ya6.calls (a0:ByteArray)(r:Bool)(w:World)(h:ya6.f a0=some r) :
 Calls Tryz.prog 63 #[.string a0] w fun e w'=>e=.returned (.bool r)∧Below w.heap.size w w':=by
 have HB:=zA (Below.refl w.heap.size w);have H:=h;clear h;unfold ya6.f at H;replace H:=zM H;obtain⟨dm,A2,H⟩:=H;replace H:=zb H;obtain⟨rfl,H⟩|⟨rfl,H⟩:=H
 ·obtain rfl:=zs H;go_enter Tryz.func63,Tryz.ntmps63;(go_wp2_with (first|((with_reducible refine zq3 (f:=27) rfl ?_);refine zq7 (some 5) rfl rfl Tryz.func27 zY2 rfl #[.int .i64 (a0.size:Int),.int .i64 1,.int .i64 8] rfl zY0 ?_;(with_reducible refine(yaK.calls (a0.size:Int) 1 8 false _ A2.out).mono ?_);rintro e w' ⟨rfl,⟨nd,rfl⟩⟩;refine⟨_,rfl,?_⟩)));go_ret;exact⟨by first|rfl|(simp[zq17,zq18]<;>rfl)|(simp[*,zq17,zq18]<;>rfl)|(simp[*,zq17,zq18];cases eZ.toList<;>rfl),zB⟩
 replace H:=zM H;obtain⟨eZ,A4,H⟩:=H;obtain rfl:=zs H;go_enter Tryz.func63,Tryz.ntmps63;go_wp2_with (first|((with_reducible refine zq3 (f:=27) rfl ?_);refine zq7 (some 5) rfl rfl Tryz.func27 zY2 rfl #[.int .i64 (a0.size:Int),.int .i64 1,.int .i64 8] rfl zY0 ?_;(with_reducible refine(yaK.calls (a0.size:Int) 1 8 true _ A2.out).mono ?_);rintro e w' ⟨rfl,⟨nd,rfl⟩⟩;refine⟨_,rfl,?_⟩)|(go_at_call 111;(with_reducible refine(ybq.calls a0 bz43 eZ _ A4.out).mono ?_);rintro e w5 ⟨rfl,hb⟩;replace HB:=zA (zq1 zB hb);clear hb))
 go_ret;exact⟨by first|rfl|(simp[zq17,zq18]<;>rfl)|(simp[*,zq17,zq18]<;>rfl)|(simp[*,zq17,zq18];cases eZ.toList<;>rfl),zB⟩
def yaN.l0:Nat→List ByteArray→List ByteArray→Int→Int→Option (Bool)
 | 0,_,_,_,_=>none
 | k+1,x3,x8,x9,qz=>if qz<x9 then(if 0≤qz then(if qz<(x8.length:Int)then((ya6.f (rdOf ByteArray.empty x8 qz)).bind fun dM=>(if dM=true then(yaN.l0 k x3 x8 x9 (wrap64 (qz+1)))else(some false)))else(none))else(none))else(some (decide ((x3.length:Int)≤3)))
def yaN.f (k:Nat)(a0:ByteArray):Option (Bool):=(yaF.f a0 (⟨#[46]⟩:ByteArray)).bind fun dm=>(yaN.l0 k dm dm (dm.length:Int) 0)
theorem yaN.calls (k:Nat)(a0:ByteArray)(r:Bool)(w:World)(hG:GOK w)(h:yaN.f k a0=some r) :
 Calls Tryz.prog 64 #[.string a0] w fun e w'=>e=.returned (.bool r)∧Below w.heap.size w w':=by
 have HG:=zA hG;clear hG;have HB:=zA (Below.refl w.heap.size w);have H:=h;clear h;unfold yaN.f at H;replace H:=zM H;obtain⟨dm,A2,H⟩:=H;have H':=zA H;clear H;go_enter Tryz.func64,Tryz.ntmps64;go_wp2_with (first|((with_reducible refine zq3 (f:=36) rfl ?_);refine zq7 (some 7) rfl rfl Tryz.func36 zY2 rfl #[.string a0,.string bz11] rfl zY0 ?_;(with_reducible refine(yaF.calls a0 bz11 dm _ ?side1 A2.out).mono ?_);(case side1=>exact zg);rintro e w3 ⟨EV,rfl,aC,hb⟩;refine⟨_,rfl,?_⟩;have qh:=zA (Kd.z9 aC (zq6 zB));replace HB:=zA (zq1 zB hb);clear hb aC;obtain⟨Be,Bf,FO⟩:=Kd.z12 qh.out;subst FO))
 go_loopg [10] k (fun kq FP w'=>∃(iw:Int),FP=.int .i64 iw∧Aside0 (yaN.l0 kq dm dm (dm.length:Int) iw=some r)∧Aside0 (kq≤k)∧Aside0 (Kd.R Kd.string 9 w' w.heap.size (fun _=>True) (.slice Be dm.length Bf) dm)∧Aside0 (Kd.R Kd.string 9 w' w.heap.size (fun _=>True) (.slice Be dm.length Bf) dm)∧Aside0 (Below w.heap.size w w'))
 case atStart=>exact⟨(0),zY4,H',⟨Nat.le_refl _⟩,⟨zVR qh.out⟩,⟨zVR qh.out⟩,⟨zB⟩⟩
 case round =>
  clear H';(try clear p2);(try clear c3);obtain⟨iw,rfl,HA,HK1,jr,nk,HB⟩:=hrel;cases gk with
  | zero=>exact absurd HA.out (by simp[yaN.l0])
  | succ k1 =>
   have H:=HA.out;clear HA;simp only[yaN.l0]at H;replace H:=zf H zkNd zkd;obtain⟨c5b0,H⟩|⟨c5b0,H⟩:=H
   ·obtain rfl:=zs H;go_wp2;go_ret;exact⟨zT,zB⟩
   replace H:=zp H zkd;obtain⟨c6b0,H⟩:=H;replace H:=zp H zkd;obtain⟨c7b0,H⟩:=H;replace H:=zM H;obtain⟨dM,A8,H⟩:=H;replace H:=zb H;obtain⟨rfl,H⟩|⟨rfl,H⟩:=H
   ·obtain rfl:=zs H;have eJ:0≤(iw:Int):=of_decide_eq_true zY1;have eK:iw<(dm.length:Int):=of_decide_eq_true zY1;obtain⟨jU,jV,gw⟩:=Kd.z23 (Kd.z11 nk.out).2.2 iw eJ eK;cases jV;replace eJ:=eq_true eJ;replace eK:=eq_true eK;(go_wp2_with (first|((with_reducible refine zq3 (f:=63) rfl ?_);refine zq7 (some 15) rfl rfl Tryz.func63 zY2 rfl #[.string (rdOf ByteArray.empty dm iw)] rfl zY0 ?_;(with_reducible refine(ya6.calls (rdOf ByteArray.empty dm iw) false _ A8.out).mono ?_);rintro e gK ⟨rfl,hb⟩;refine⟨_,rfl,?_⟩;replace jr:=zA (Kd.z4 (zVR jr.out) hb);replace nk:=zA (Kd.z4 (zVR nk.out) hb);replace HB:=zA (zq1 zB hb);clear hb)));go_ret;exact⟨zT,zB⟩
   have H':=zA H;clear H;have eJ:0≤(iw:Int):=of_decide_eq_true zY1;have eK:iw<(dm.length:Int):=of_decide_eq_true zY1;obtain⟨jU,jV,gw⟩:=Kd.z23 (Kd.z11 nk.out).2.2 iw eJ eK;cases jV;replace eJ:=eq_true eJ;replace eK:=eq_true eK;(go_wp2_with (first|((with_reducible refine zq3 (f:=63) rfl ?_);refine zq7 (some 15) rfl rfl Tryz.func63 zY2 rfl #[.string (rdOf ByteArray.empty dm iw)] rfl zY0 ?_;(with_reducible refine(ya6.calls (rdOf ByteArray.empty dm iw) true _ A8.out).mono ?_);rintro e et ⟨rfl,hb⟩;refine⟨_,rfl,?_⟩;replace jr:=zA (Kd.z4 (zVR jr.out) hb);replace nk:=zA (Kd.z4 (zVR nk.out) hb);replace HB:=zA (zq1 zB hb);clear hb)));go_roundg k1;(case measure=>have:=HK1.out;omega);case rel=>exact⟨(wrap64 (iw+1)),zY4,H',⟨by have:=HK1.out;omega⟩,⟨zVR jr.out⟩,⟨zVR nk.out⟩,⟨zB⟩⟩
def ya8.f (k:Nat)(ag:ByteArray)(ai:ByteArray):Option (Bool):=(ya6.f ag).bind fun i7=>(if i7=true then((yaN.f k ai).bind fun fC=>(some fC))else(some false))
theorem ya8.calls (k:Nat)(ag:ByteArray)(ai:ByteArray)(r:Bool)(w:World)(hG:GOK w)(h:ya8.f k ag ai=some r) :
 Calls Tryz.prog 28 #[.agg #[.string ag,.string ai]] w fun e w'=>e=.returned (.bool r)∧Below w.heap.size w w':=by
 have hu24:=Tryz.underlying24;have HG:=zA hG;clear hG;have HB:=zA (Below.refl w.heap.size w);have H:=h;clear h;unfold ya8.f at H;replace H:=zM H;obtain⟨i7,A2,H⟩:=H;replace H:=zb H;obtain⟨rfl,H⟩|⟨rfl,H⟩:=H
 ·obtain rfl:=zs H;go_enter Tryz.func28,Tryz.ntmps28;(go_wp2_with (first|((with_reducible refine zq5 (N:=1) rfl ?_);refine zE (N:=1) (cs:=#[.string ag,.string ai]) (t:=24) ?_;intro fJ hg et hbox hb;have cf:=zA hbox;have o8:=zA (zS hg:w.heap.size≤fJ);have o9:=zA (zS hg:w.heap.size≤fJ);replace HB:=zA (zq1 zB hb);clear hb hbox hg;obtain⟨_,_⟩:=zc2 cf.out;obtain⟨_,_⟩:=zf2 cf.out)|((with_reducible refine zq3 (f:=63) rfl ?_);refine zq7 (some 5) rfl rfl Tryz.func63 zY2 rfl #[.string ag] rfl zY0 ?_;(with_reducible refine(ya6.calls ag false _ A2.out).mono ?_);rintro e ew ⟨rfl,hb⟩;refine⟨_,rfl,?_⟩;replace cf:=zA (zq2 (zK cf.out) hb);replace HB:=zA (zq1 zB hb);clear hb)));go_ret;exact⟨zT,zB⟩
 replace H:=zM H;obtain⟨fC,A4,H⟩:=H;obtain rfl:=zs H;go_enter Tryz.func28,Tryz.ntmps28;go_wp2_with (first|((with_reducible refine zq5 (N:=1) rfl ?_);refine zE (N:=1) (cs:=#[.string ag,.string ai]) (t:=24) ?_;intro fJ hg w5 hbox hb;have cf:=zA hbox;have o8:=zA (zS hg:w.heap.size≤fJ);have o9:=zA (zS hg:w.heap.size≤fJ);replace HB:=zA (zq1 zB hb);clear hb hbox hg;obtain⟨_,_⟩:=zc2 cf.out;obtain⟨_,_⟩:=zf2 cf.out)|((with_reducible refine zq3 (f:=63) rfl ?_);refine zq7 (some 5) rfl rfl Tryz.func63 zY2 rfl #[.string ag] rfl zY0 ?_;(with_reducible refine(ya6.calls ag true _ A2.out).mono ?_);rintro e w7 ⟨rfl,hb⟩;refine⟨_,rfl,?_⟩;replace cf:=zA (zq2 (zK cf.out) hb);replace HB:=zA (zq1 zB hb);clear hb;obtain⟨_,_⟩:=zc2 cf.out;obtain⟨_,_⟩:=zf2 cf.out)|(go_at_call 64;(with_reducible refine(yaN.calls k ai fC _ ?side1 A4.out).mono ?_);(case side1=>exact zg);rintro e w9 ⟨rfl,hb⟩;replace cf:=zA (zq2 (zK cf.out) hb);replace HB:=zA (zq1 zB hb);clear hb))
 go_ret;exact⟨zT,zB⟩
def yaD.f (ag:ByteArray)(ai:ByteArray):Option (Bool):=some (ag.toList==([]:List UInt8) && (ai.toList==([]:List UInt8)))
theorem yaD.calls (ag:ByteArray)(ai:ByteArray)(r:Bool)(w:World)(h:yaD.f ag ai=some r) :
 Calls Tryz.prog 32 #[.agg #[.string ag,.string ai]] w fun e w'=>e=.returned (.bool r)∧Below w.heap.size w w':=by
 have hu24:=Tryz.underlying24;have HB:=zA (Below.refl w.heap.size w);have H:=h;clear h;unfold yaD.f at H;obtain rfl:=zs H;go_enter Tryz.func32,Tryz.ntmps32;go_wp2_with (first|((with_reducible refine zq5 (N:=1) rfl ?_);refine zE (N:=1) (cs:=#[.string ag,.string ai]) (t:=24) ?_;intro dq hg w2 hbox hb;have bx:=zA hbox;have jL:=zA (zS hg:w.heap.size≤dq);have jM:=zA (zS hg:w.heap.size≤dq);replace HB:=zA (zq1 zB hb);clear hb hbox hg;obtain⟨_,_⟩:=zc2 bx.out;obtain⟨_,_⟩:=zf2 bx.out))
 go_ret;exact⟨zT,zB⟩
def ybk.f (ag:ByteArray)(ai:ByteArray)(ay:List (S24))(bc:List ByteArray):Option (Bool):=(yaD.f ag ai).bind fun eE=>(if eE=true then(if(ay.length:Int)=0 then(some ((bc.length:Int)==0))else(some false))else(some false))
theorem ybk.calls (ag:ByteArray)(ai:ByteArray)(dr:Option Addr)(dg:Nat)(ay:List (S24))(cI:Option Addr)(cJ:Nat)(bc:List ByteArray)(r:Bool)(w:World)(gI:Kd.C k24 w dr ay.length ay)(gJ:ay.length≤dg)(fD:Kd.C Kd.string w cI bc.length bc)(fE:bc.length≤cJ)(h:ybk.f ag ai ay bc=some r) :
 Calls Tryz.prog 29 #[.agg #[.string ag,.string ai,.slice dr ay.length dg,.slice cI bc.length cJ]] w fun e w'=>e=.returned (.bool r)∧Below w.heap.size w w':=by
 have hu28:=Tryz.underlying28;have hu24:=Tryz.underlying24;have fj:=zA gI;have iv:=zA gJ;clear gI gJ;have ft:=zA fD;have gv:=zA fE;clear fD fE;have HB:=zA (Below.refl w.heap.size w);have H:=h;clear h;unfold ybk.f at H;replace H:=zM H;obtain⟨eE,A2,H⟩:=H;replace H:=zb H;obtain⟨rfl,H⟩|⟨rfl,H⟩:=H
 ·obtain rfl:=zs H;go_enter Tryz.func29,Tryz.ntmps29;(go_wp2_with (first|((with_reducible refine zq5 (N:=1) rfl ?_);(try(refine gate_guard zY15 ?_;dsimp only));refine zE (N:=1) (cs:=#[.string ag,.string ai,.slice dr ay.length dg,.slice cI bc.length cJ]) (t:=28) ?_;intro gY hg gy hbox hb;have bv:=zA hbox;have sJ:=zA (zS hg:w.heap.size≤gY);have sK:=zA (zS hg:w.heap.size≤gY);replace HB:=zA (zq1 zB hb);clear hb hbox hg;obtain⟨_,_,_,_⟩:=zc4 bv.out;obtain⟨_,_,_,_⟩:=zf4 bv.out)|((with_reducible refine zq3 (f:=32) rfl ?_);refine zq7 (some 5) rfl rfl Tryz.func32 zY2 rfl #[.agg #[.string ag,.string ai]] rfl zY0 ?_;(with_reducible refine(yaD.calls ag ai false _ A2.out).mono ?_);rintro e ni ⟨rfl,hb⟩;refine⟨_,rfl,?_⟩;replace bv:=zA (zq2 (zK bv.out) hb);replace HB:=zA (zq1 zB hb);clear hb)));go_ret;exact⟨zT,zB⟩
 replace H:=zh H zkQqn zkQNqnk;obtain⟨⟨c4b0,c4b1⟩,H⟩|⟨⟨c4b0,c4b1,c4⟩,H⟩:=H
 ·obtain rfl:=zs H;go_enter Tryz.func29,Tryz.ntmps29;(go_wp2_with (first|((with_reducible refine zq5 (N:=1) rfl ?_);(try(refine gate_guard zY15 ?_;dsimp only));refine zE (N:=1) (cs:=#[.string ag,.string ai,.slice dr ay.length dg,.slice cI bc.length cJ]) (t:=28) ?_;intro gY hg w5 hbox hb;have bv:=zA hbox;have sJ:=zA (zS hg:w.heap.size≤gY);have sK:=zA (zS hg:w.heap.size≤gY);replace HB:=zA (zq1 zB hb);clear hb hbox hg;obtain⟨_,_,_,_⟩:=zc4 bv.out;obtain⟨_,_,_,_⟩:=zf4 bv.out)|((with_reducible refine zq3 (f:=32) rfl ?_);refine zq7 (some 5) rfl rfl Tryz.func32 zY2 rfl #[.agg #[.string ag,.string ai]] rfl zY0 ?_;(with_reducible refine(yaD.calls ag ai true _ A2.out).mono ?_);rintro e w7 ⟨rfl,hb⟩;refine⟨_,rfl,?_⟩;replace bv:=zA (zq2 (zK bv.out) hb);replace HB:=zA (zq1 zB hb);clear hb;obtain⟨_,_,_,_⟩:=zc4 bv.out;obtain⟨_,_,_,_⟩:=zf4 bv.out)));go_ret;exact⟨zT,zB⟩
 have c4b2:¬ (ay=[]):=fun h_=>c4 (by rw[h_];rfl);obtain rfl:=zs H;go_enter Tryz.func29,Tryz.ntmps29;go_wp2_with (first|((with_reducible refine zq5 (N:=1) rfl ?_);(try(refine gate_guard zY15 ?_;dsimp only));refine zE (N:=1) (cs:=#[.string ag,.string ai,.slice dr ay.length dg,.slice cI bc.length cJ]) (t:=28) ?_;intro gY hg w9 hbox hb;have bv:=zA hbox;have sJ:=zA (zS hg:w.heap.size≤gY);have sK:=zA (zS hg:w.heap.size≤gY);replace HB:=zA (zq1 zB hb);clear hb hbox hg;obtain⟨_,_,_,_⟩:=zc4 bv.out;obtain⟨_,_,_,_⟩:=zf4 bv.out)|((with_reducible refine zq3 (f:=32) rfl ?_);refine zq7 (some 5) rfl rfl Tryz.func32 zY2 rfl #[.agg #[.string ag,.string ai]] rfl zY0 ?_;(with_reducible refine(yaD.calls ag ai true _ A2.out).mono ?_);rintro e gK ⟨rfl,hb⟩;refine⟨_,rfl,?_⟩;replace bv:=zA (zq2 (zK bv.out) hb);replace HB:=zA (zq1 zB hb);clear hb;obtain⟨_,_,_,_⟩:=zc4 bv.out;obtain⟨_,_,_,_⟩:=zf4 bv.out))
 go_ret;exact⟨zT,zB⟩
def yaC.f (k:Nat)(ag:ByteArray)(ai:ByteArray):Option (Bool):=(yaD.f ag ai).bind fun eZ=>(if eZ=true then(some true)else((ya8.f k ag ai).bind fun eE=>(some eE)))
theorem yaC.calls (k:Nat)(ag:ByteArray)(ai:ByteArray)(r:Bool)(w:World)(hG:GOK w)(h:yaC.f k ag ai=some r) :
 Calls Tryz.prog 66 #[.agg #[.string ag,.string ai]] w fun e w'=>e=.returned (.bool r)∧Below w.heap.size w w':=by
 have hu24:=Tryz.underlying24;have HG:=zA hG;clear hG;have HB:=zA (Below.refl w.heap.size w);have H:=h;clear h;unfold yaC.f at H;replace H:=zM H;obtain⟨eZ,A2,H⟩:=H;replace H:=zbp H;obtain⟨rfl,H⟩|⟨rfl,H⟩:=H
 ·obtain rfl:=zs H;go_enter Tryz.func66,Tryz.ntmps66;(go_wp2_with (first|((with_reducible refine zq5 (N:=1) rfl ?_);refine zE (N:=1) (cs:=#[.string ag,.string ai]) (t:=24) ?_;intro dq hg w4 hbox hb;have bx:=zA hbox;have jL:=zA (zS hg:w.heap.size≤dq);have jM:=zA (zS hg:w.heap.size≤dq);replace HB:=zA (zq1 zB hb);clear hb hbox hg;obtain⟨_,_⟩:=zc2 bx.out;obtain⟨_,_⟩:=zf2 bx.out)|((with_reducible refine zq3 (f:=32) rfl ?_);refine zq7 (some 4) rfl rfl Tryz.func32 zY2 rfl #[.agg #[.string ag,.string ai]] rfl zY0 ?_;(with_reducible refine(yaD.calls ag ai true _ A2.out).mono ?_);rintro e w6 ⟨rfl,hb⟩;refine⟨_,rfl,?_⟩;replace bx:=zA (zq2 (zK bx.out) hb);replace HB:=zA (zq1 zB hb);clear hb)));go_ret;exact⟨zT,zB⟩
 replace H:=zM H;obtain⟨eE,A7,H⟩:=H;obtain rfl:=zs H;go_enter Tryz.func66,Tryz.ntmps66;go_wp2_with (first|((with_reducible refine zq5 (N:=1) rfl ?_);refine zE (N:=1) (cs:=#[.string ag,.string ai]) (t:=24) ?_;intro dq hg w8 hbox hb;have bx:=zA hbox;have jL:=zA (zS hg:w.heap.size≤dq);have jM:=zA (zS hg:w.heap.size≤dq);replace HB:=zA (zq1 zB hb);clear hb hbox hg;obtain⟨_,_⟩:=zc2 bx.out;obtain⟨_,_⟩:=zf2 bx.out)|((with_reducible refine zq3 (f:=32) rfl ?_);refine zq7 (some 4) rfl rfl Tryz.func32 zY2 rfl #[.agg #[.string ag,.string ai]] rfl zY0 ?_;(with_reducible refine(yaD.calls ag ai false _ A2.out).mono ?_);rintro e et ⟨rfl,hb⟩;refine⟨_,rfl,?_⟩;replace bx:=zA (zq2 (zK bx.out) hb);replace HB:=zA (zq1 zB hb);clear hb;obtain⟨_,_⟩:=zc2 bx.out;obtain⟨_,_⟩:=zf2 bx.out)|(go_at_call 28;(with_reducible refine(ya8.calls k ag ai eE _ ?side1 A7.out).mono ?_);(case side1=>exact zg);rintro e ew ⟨rfl,hb⟩;replace bx:=zA (zq2 (zK bx.out) hb);replace HB:=zA (zq1 zB hb);clear hb))
 go_ret;exact⟨zT,zB⟩
def ybl.f (k:Nat)(ag:ByteArray)(ai:ByteArray):Option (Bool):=(ya8.f k ag ai).bind fun eZ=>(some (!eZ))
theorem ybl.calls (k:Nat)(ag:ByteArray)(ai:ByteArray)(r:Bool)(w:World)(hG:GOK w)(h:ybl.f k ag ai=some r) :
 Calls Tryz.prog 65 #[.agg #[.string ag,.string ai]] w fun e w'=>e=.returned (.bool r)∧Below w.heap.size w w':=by
 have hu24:=Tryz.underlying24;have HG:=zA hG;clear hG;have HB:=zA (Below.refl w.heap.size w);have H:=h;clear h;unfold ybl.f at H;obtain⟨eZ,A2,H⟩:=zM H;obtain rfl:=zs H;go_enter Tryz.func65,Tryz.ntmps65;go_wp2_with (first|((with_reducible refine zq5 (N:=1) rfl ?_);refine zE (N:=1) (cs:=#[.string ag,.string ai]) (t:=24) ?_;intro dq hg w3 hbox hb;have bx:=zA hbox;have jL:=zA (zS hg:w.heap.size≤dq);have jM:=zA (zS hg:w.heap.size≤dq);replace HB:=zA (zq1 zB hb);clear hb hbox hg;obtain⟨_,_⟩:=zc2 bx.out;obtain⟨_,_⟩:=zf2 bx.out)|((with_reducible refine zq3 (f:=28) rfl ?_);refine zq7 (some 4) rfl rfl Tryz.func28 zY2 rfl #[.agg #[.string ag,.string ai]] rfl zY0 ?_;(with_reducible refine(ya8.calls k ag ai eZ _ ?side1 A2.out).mono ?_);(case side1=>exact zg);rintro e w5 ⟨rfl,hb⟩;refine⟨_,rfl,?_⟩;replace bx:=zA (zq2 (zK bx.out) hb);replace HB:=zA (zq1 zB hb);clear hb))
 go_ret;exact⟨zT,zB⟩
end Go.Proofs.YtjdpdkdhfnpcgaaGreatDoor.Q
namespace Go.Proofs.YtjdpdkdhfnpcgaaGreatDoor.Q
open Go.RowKit Go.Proofs.YtjdpdkdhfnpcgaaGreatDoorW.PrintWords Go.Proofs.YtjdpdkdhfnpcgaaGreatDoorW.PrintLast Go.Proofs.YtjdpdkdhfnpcgaaGreatDoorW.PrintMore
attribute [local go_sem] max2_int min2_int max_two min_two max_three min_three max_four min_four
set_option linter.unusedVariables false
set_option linter.unusedSimpArgs false
def yab.l0:Nat→List (S24)→Int→Int→Option (Int)
 | 0,_,_,_=>none
 | k+1,x0,x7,x8=>if x8<x7 then(if 0≤x8 then(if x8<(x0.length:Int)then((ybl.f k ((zq14 x0 x8).f0) ((zq14 x0 x8).f1)).bind fun lc=>(if lc=true then(some x8)else(yab.l0 k x0 x7 (wrap64 (x8+1)))))else(none))else(none))else(some (-1))
def yab.f (k:Nat)(l0:List (S24)) :Option (Int):=yab.l0 k l0 (l0.length:Int) 0
theorem yab.calls (k:Nat)(A0:Option Addr)(c0:Nat)(l0:List (S24))  (r:Int)(w:World)(cA:Kd.C k24 w A0 l0.length l0)(df:l0.length≤c0)(hG:GOK w)(h:yab.f k l0=some r) :
 Calls Tryz.prog 112 #[.slice A0 l0.length c0,.func (.func 65) #[] #[]] w fun e w'=>e=.returned (.int .i64 r)∧Below w.heap.size w w':=by
 have hu24:=Tryz.underlying24;have dA:=zA cA;have e6:=zA df;clear cA df;have HG:=zA hG;clear hG;have HB:=zA (Below.refl w.heap.size w);have H:=h;clear h;unfold yab.f at H;have H':=zA H;clear H;go_enter Tryz.func112,Tryz.ntmps112;go_wp2;go_loopg [8] k (fun kq v8 w'=>∃(cd:Int),v8=.int .i64 cd∧Aside0 (yab.l0 kq l0 (l0.length:Int) cd=some r)∧Aside0 (kq≤k)∧Aside0 (Below w.heap.size w w'))
 case atStart=>exact⟨(0),zY4,H',⟨Nat.le_refl _⟩,⟨zB⟩⟩
 case round =>
  clear H';(try clear p2);obtain⟨cd,rfl,HA,HK1,HB⟩:=hrel;cases gk with
  | zero=>exact absurd HA.out (by simp[yab.l0])
  | succ k1 =>
   have H:=HA.out;clear HA;simp only[yab.l0]at H;replace H:=zf H zkNd zkd;obtain⟨c3b0,H⟩|⟨c3b0,H⟩:=H
   ·obtain rfl:=zs H;go_wp2;go_ret;exact⟨zT,zB⟩
   replace H:=zp H zkd;obtain⟨c4b0,H⟩:=H;replace H:=zp H zkd;obtain⟨c5b0,H⟩:=H;replace H:=zM H;obtain⟨lc,A6,H⟩:=H;replace H:=zbp H;obtain⟨rfl,H⟩|⟨rfl,H⟩:=H
   ·obtain rfl:=zs H;have nl:0≤(cd:Int):=of_decide_eq_true zY1;have nn:cd<(l0.length:Int):=of_decide_eq_true zY1;obtain⟨FQ,xb,no,np⟩:=at_T24 dA.out cd nl nn;cases xb;replace no:=(HB.out.cell (World.block_lt_of_cell? w _ no)).trans no;replace np:=(HB.out.cell (World.block_lt_of_cell? w _ np)).trans np;replace nl:=eq_true nl;replace nn:=eq_true nn;(go_wp2_with (first|(go_at_call 65;(with_reducible refine(ybl.calls k1 ((zq14 l0 cd).f0) ((zq14 l0 cd).f1) true _ ?side1 A6.out).mono ?_);(case side1=>exact zg);rintro e w8 ⟨rfl,hb⟩;replace HB:=zA (zq1 zB hb);clear hb)));go_ret;exact⟨zT,zB⟩
   have H':=zA H;clear H;have nl:0≤(cd:Int):=of_decide_eq_true zY1;have nn:cd<(l0.length:Int):=of_decide_eq_true zY1;obtain⟨FQ,xb,no,np⟩:=at_T24 dA.out cd nl nn;cases xb;replace no:=(HB.out.cell (World.block_lt_of_cell? w _ no)).trans no;replace np:=(HB.out.cell (World.block_lt_of_cell? w _ np)).trans np;replace nl:=eq_true nl;replace nn:=eq_true nn;(go_wp2_with (first|(go_at_call 65;(with_reducible refine(ybl.calls k1 ((zq14 l0 cd).f0) ((zq14 l0 cd).f1) false _ ?side1 A6.out).mono ?_);(case side1=>exact zg);rintro e w9 ⟨rfl,hb⟩;replace HB:=zA (zq1 zB hb);clear hb)));go_roundg k1;(case measure=>have:=HK1.out;omega);case rel=>exact⟨(wrap64 (cd+1)),zY4,H',⟨by have:=HK1.out;omega⟩,⟨zB⟩⟩
def yah.f (k:Nat)(l0:List (S24)) :Option (Bool):=(yab.f k l0).bind fun dM=>(some (decide (dM≥0)))
theorem yah.calls (k:Nat)(A0:Option Addr)(c0:Nat)(l0:List (S24))  (r:Bool)(w:World)(cA:Kd.C k24 w A0 l0.length l0)(df:l0.length≤c0)(hG:GOK w)(h:yah.f k l0=some r) :
 Calls Tryz.prog 67 #[.slice A0 l0.length c0,.func (.func 65) #[] #[]] w fun e w'=>e=.returned (.bool r)∧Below w.heap.size w w':=by
 have dA:=zA cA;have e6:=zA df;clear cA df;have HG:=zA hG;clear hG;have HB:=zA (Below.refl w.heap.size w);have H:=h;clear h;unfold yah.f at H;obtain⟨dM,A3,H⟩:=zM H;obtain rfl:=zs H;go_enter Tryz.func67,Tryz.ntmps67;go_wp2_with (first|((with_reducible refine zq3 (f:=112) rfl ?_);refine zq7 (some 7) rfl rfl Tryz.func112 zY2 rfl #[.slice A0 l0.length c0,.func (.func 65) #[] #[]] rfl zY0 ?_;(with_reducible refine(yab.calls k _ _ l0  dM _ ?side1 ?side2 ?side3 A3.out).mono ?_);(case side1=>exact zC dA.out);(case side2=>exact e6.out);(case side3=>exact zg);rintro e w4 ⟨rfl,hb⟩;refine⟨_,rfl,?_⟩;replace HB:=zA (zq1 zB hb);clear hb))
 go_ret;exact⟨zT,zB⟩
def ya0.l0:Nat→ByteArray→Int→Int→Option (Bool)
 | 0,_,_,_=>none
 | k+1,x0,x5,x6=>if x6<x5 then(if 0≤x6 then(if x6<(x0.size:Int)then(if(bt x0 x6)<32 then(some false)else(if(bt x0 x6)>126 then(some false)else(ya0.l0 k x0 x5 (wrap64 (x6+1)))))else(none))else(none))else(some (decide ((x0.size:Int)≤40)))
def ya0.f (k:Nat)(a0:ByteArray):Option (Bool):=ya0.l0 k a0 (a0.size:Int) 0
theorem ya0.calls (k:Nat)(a0:ByteArray)(r:Bool)(w:World)(h:ya0.f k a0=some r) :
 Calls Tryz.prog 115 #[.string a0] w fun e w'=>e=.returned (.bool r)∧Drawn0 w w':=by
 have H:=h;clear h;unfold ya0.f at H;have H':=zA H;clear H;go_enter Tryz.func115,Tryz.ntmps115;go_wp2;go_loopg [6] k (fun kq v6 w'=>∃(dP:Int),v6=.int .i64 dP∧Aside0 (ya0.l0 kq a0 (a0.size:Int) dP=some r)∧Aside0 (kq≤k)∧Drawn0 w w')
 case atStart=>exact⟨(0),zY4,H',⟨Nat.le_refl _⟩,by repeat(first|exact Drawn0.refl _|apply Drawn0.step)⟩
 case round =>
  clear H';(try clear c1);obtain⟨dP,rfl,HA,HK1,⟨m1,rfl⟩⟩:=hrel;cases gk with
  | zero=>exact absurd HA.out (by simp[ya0.l0])
  | succ k1 =>
   have H:=HA.out;clear HA;simp only[ya0.l0]at H;obtain⟨c2b0,H⟩|⟨c2b0,H⟩:=zf H zkNd zkd
   ·obtain rfl:=zs H;go_wp2;go_ret;exact⟨by first|rfl|(simp;done)|(simp[*];done),by repeat(first|exact Drawn0.refl _|apply Drawn0.step)⟩
   obtain⟨c3b0,H⟩:=zp H zkd;obtain⟨c4b0,H⟩:=zp H zkd;obtain⟨c6b0,H⟩|⟨c6b0,H⟩:=zh H zkd zkNd
   ·obtain rfl:=zs H;have p5:0≤(dP:Int):=of_decide_eq_true zY1;have q5:dP<(a0.size:Int):=of_decide_eq_true zY1;have Bg:=bt_at a0 dP;replace p5:=eq_true p5;replace q5:=eq_true q5;go_wp2;go_ret;exact⟨by first|rfl|(simp;done)|(simp[*];done),by repeat(first|exact Drawn0.refl _|apply Drawn0.step)⟩
   obtain⟨c8b0,H⟩|⟨c8b0,H⟩:=zh H zkGg zkGNg
   ·obtain rfl:=zs H;have p5:0≤(dP:Int):=of_decide_eq_true zY1;have q5:dP<(a0.size:Int):=of_decide_eq_true zY1;have Bg:=bt_at a0 dP;replace p5:=eq_true p5;replace q5:=eq_true q5;have p7:0≤(dP:Int):=of_decide_eq_true zY1;have q7:dP<(a0.size:Int):=of_decide_eq_true zY1;have FR:=bt_at a0 dP;replace p7:=eq_true p7;replace q7:=eq_true q7;go_wp2;go_ret;exact⟨by first|rfl|(simp;done)|(simp[*];done),by repeat(first|exact Drawn0.refl _|apply Drawn0.step)⟩
   have H':=zA H;clear H;have p5:0≤(dP:Int):=of_decide_eq_true zY1;have q5:dP<(a0.size:Int):=of_decide_eq_true zY1;have Bg:=bt_at a0 dP;replace p5:=eq_true p5;replace q5:=eq_true q5;have p7:0≤(dP:Int):=of_decide_eq_true zY1;have q7:dP<(a0.size:Int):=of_decide_eq_true zY1;have FR:=bt_at a0 dP;replace p7:=eq_true p7;replace q7:=eq_true q7;go_wp2;go_roundg k1;(case measure=>have:=HK1.out;omega);case rel=>exact⟨(wrap64 (dP+1)),zY4,H',⟨by have:=HK1.out;omega⟩,by repeat(first|exact Drawn0.refl _|apply Drawn0.step)⟩
def ybg.f (k:Nat)(a0:ByteArray):Option (Bool):=(ya0.f k a0).bind fun dm=>(some (!dm))
theorem ybg.calls (k:Nat)(a0:ByteArray)(r:Bool)(w:World)(h:ybg.f k a0=some r) :
 Calls Tryz.prog 114 #[.string a0] w fun e w'=>e=.returned (.bool r)∧Drawn0 w w':=by
 have H:=h;clear h;unfold ybg.f at H;obtain⟨dm,A2,H⟩:=zM H;obtain rfl:=zs H;go_enter Tryz.func114,Tryz.ntmps114;go_wp2_with (first|((with_reducible refine zq3 (f:=115) rfl ?_);refine zq7 (some 4) rfl rfl Tryz.func115 zY2 rfl #[.string a0] rfl zY0 ?_;(with_reducible refine(ya0.calls k a0 dm _ A2.out).mono ?_);rintro e w' ⟨rfl,⟨nd,rfl⟩⟩;refine⟨_,rfl,?_⟩))
 go_ret;exact⟨by first|rfl|(simp;done)|(simp[*];done),by repeat(first|exact Drawn0.refl _|apply Drawn0.step)⟩
def yac.l0:Nat→List ByteArray→Int→Int→Option (Int)
 | 0,_,_,_=>none
 | k+1,x0,x7,x8=>if x8<x7 then(if 0≤x8 then(if x8<(x0.length:Int)then((ybg.f k (rdOf ByteArray.empty x0 x8)).bind fun eE=>(if eE=true then(some x8)else(yac.l0 k x0 x7 (wrap64 (x8+1)))))else(none))else(none))else(some (-1))
def yac.f (k:Nat)(l0:List ByteArray) :Option (Int):=yac.l0 k l0 (l0.length:Int) 0
theorem yac.calls (k:Nat)(A0:Option Addr)(c0:Nat)(l0:List ByteArray)  (r:Int)(w:World)(cA:Kd.C Kd.string w A0 l0.length l0)(df:l0.length≤c0)(h:yac.f k l0=some r) :
 Calls Tryz.prog 148 #[.slice A0 l0.length c0,.func (.func 114) #[] #[]] w fun e w'=>e=.returned (.int .i64 r)∧Drawn0 w w':=by
 have dA:=zA cA;have e6:=zA df;clear cA df;have H:=h;clear h;unfold yac.f at H;have H':=zA H;clear H;go_enter Tryz.func148,Tryz.ntmps148;go_wp2;go_loopg [8] k (fun kq v8 w'=>∃(cd:Int),v8=.int .i64 cd∧Aside0 (yac.l0 kq l0 (l0.length:Int) cd=some r)∧Aside0 (kq≤k)∧Drawn0 w w')
 case atStart=>exact⟨(0),zY4,H',⟨Nat.le_refl _⟩,by repeat(first|exact Drawn0.refl _|apply Drawn0.step)⟩
 case round =>
  clear H';(try clear p2);obtain⟨cd,rfl,HA,HK1,⟨m1,rfl⟩⟩:=hrel;cases gk with
  | zero=>exact absurd HA.out (by simp[yac.l0])
  | succ k1 =>
   have H:=HA.out;clear HA;simp only[yac.l0]at H;replace H:=zf H zkNd zkd;obtain⟨c3b0,H⟩|⟨c3b0,H⟩:=H
   ·obtain rfl:=zs H;go_wp2;go_ret;exact⟨by first|rfl|(simp;done)|(simp[*];done),by repeat(first|exact Drawn0.refl _|apply Drawn0.step)⟩
   replace H:=zp H zkd;obtain⟨c4b0,H⟩:=H;replace H:=zp H zkd;obtain⟨c5b0,H⟩:=H;replace H:=zM H;obtain⟨eE,A6,H⟩:=H;replace H:=zbp H;obtain⟨rfl,H⟩|⟨rfl,H⟩:=H
   ·obtain rfl:=zs H;have nq:0≤(cd:Int):=of_decide_eq_true zY1;have nr:cd<(l0.length:Int):=of_decide_eq_true zY1;obtain⟨FS,xc,FT⟩:=Kd.z23 dA.out cd nq nr;cases xc;replace nq:=eq_true nq;replace nr:=eq_true nr;(go_wp2_with (first|(go_at_call 114;(with_reducible refine(ybg.calls k1 (rdOf ByteArray.empty l0 cd) true _ A6.out).mono ?_);rintro e w' ⟨rfl,⟨nd,rfl⟩⟩)));go_ret;exact⟨by first|rfl|(simp;done)|(simp[*];done),by repeat(first|exact Drawn0.refl _|apply Drawn0.step)⟩
   have H':=zA H;clear H;have nq:0≤(cd:Int):=of_decide_eq_true zY1;have nr:cd<(l0.length:Int):=of_decide_eq_true zY1;obtain⟨FS,xc,FT⟩:=Kd.z23 dA.out cd nq nr;cases xc;replace nq:=eq_true nq;replace nr:=eq_true nr;(go_wp2_with (first|(go_at_call 114;(with_reducible refine(ybg.calls k1 (rdOf ByteArray.empty l0 cd) false _ A6.out).mono ?_);rintro e w' ⟨rfl,⟨nd,rfl⟩⟩)));go_roundg k1;(case measure=>have:=HK1.out;omega);case rel=>exact⟨(wrap64 (cd+1)),zY4,H',⟨by have:=HK1.out;omega⟩,by repeat(first|exact Drawn0.refl _|apply Drawn0.step)⟩
def yaw.f (k:Nat)(l0:List ByteArray) :Option (Bool):=(yac.f k l0).bind fun lc=>(some (decide (lc≥0)))
theorem yaw.calls (k:Nat)(A0:Option Addr)(c0:Nat)(l0:List ByteArray)  (r:Bool)(w:World)(cA:Kd.C Kd.string w A0 l0.length l0)(df:l0.length≤c0)(h:yaw.f k l0=some r) :
 Calls Tryz.prog 113 #[.slice A0 l0.length c0,.func (.func 114) #[] #[]] w fun e w'=>e=.returned (.bool r)∧Drawn0 w w':=by
 have dA:=zA cA;have e6:=zA df;clear cA df;have H:=h;clear h;unfold yaw.f at H;obtain⟨lc,A3,H⟩:=zM H;obtain rfl:=zs H;go_enter Tryz.func113,Tryz.ntmps113;go_wp2_with (first|((with_reducible refine zq3 (f:=148) rfl ?_);refine zq7 (some 7) rfl rfl Tryz.func148 zY2 rfl #[.slice A0 l0.length c0,.func (.func 114) #[] #[]] rfl zY0 ?_;(with_reducible refine(yac.calls k _ _ l0  lc _ ?side1 ?side2 A3.out).mono ?_);(case side1=>exact zC dA.out);(case side2=>exact e6.out);rintro e w' ⟨rfl,⟨nd,rfl⟩⟩;refine⟨_,rfl,?_⟩))
 go_ret;exact⟨by first|rfl|(simp;done)|(simp[*];done),by repeat(first|exact Drawn0.refl _|apply Drawn0.step)⟩
end Go.Proofs.YtjdpdkdhfnpcgaaGreatDoor.Q
namespace Go.Proofs.YtjdpdkdhfnpcgaaGreatDoor.Q
open Go.RowKit Go.Proofs.YtjdpdkdhfnpcgaaGreatDoorW.PrintWords Go.Proofs.YtjdpdkdhfnpcgaaGreatDoorW.PrintLast Go.Proofs.YtjdpdkdhfnpcgaaGreatDoorW.PrintMore
open Go.Maps Go.WideMaps
set_option linter.unusedVariables false
set_option linter.unusedSimpArgs false
abbrev DA := S24
theorem dLaidOut : laidOutB Tryz.prog = true := by kernel_rfl
theorem dRow : (24 : TypeId)<Tryz.prog.types.size := of_decide_eq_true (by kernel_rfl)
theorem dCells : Tryz.prog.cellsOf 24 = 2 := by kernel_rfl
theorem dWide : (match Tryz.prog.underlying 24 with | some (.array _ _) | some (.struct _) => true | _ => false) = true := by rw[Tryz.underlying24]
theorem dLaw : KeyLaw Tryz.prog 24 := deep_law_laid dLaidOut (m := 2) (by omega) dRow (by kernel_rfl) dWide
theorem dKeyed : Keyed Tryz.prog 24 := Keyed.of_law dLaw
def klA (x : DA) : Lit := .string (keyBytes [.string x.f0.data.toList, .string x.f1.data.toList])
theorem keyLits_str (d : Nat){s : ByteArray}(hs : s.size ≤ maxLen) : Tryz.prog.keyLits (d + 1) 9 [.string s] = some [.string s.data.toList] := by
  unfold Program.keyLits
  rw[Tryz.underlying9]
  simp[hs]
theorem keyOfA {x : DA}(h0 : x.f0.size ≤ maxLen)(h1 : x.f1.size ≤ maxLen) : keyOf Tryz.prog 24 (.agg #[.string x.f0, .string x.f1]) = some (klA x) := by
  have hk : Tryz.prog.keyType 24 = true := by kernel_rfl
  have hf : (Value.agg #[.string x.f0, .string x.f1]).formed Tryz.prog 24 = true := by simp[Value.formed, Tryz.underlying24, dCells]
  have hs : Tryz.prog.cellsOf 9 = 1 := by kernel_rfl
  obtain⟨m, hm⟩ : ∃ m, Tryz.prog.types.size + 1 = m + 2 := by
    cases h : Tryz.prog.types.size with
    | zero => have := dRow; rw[h]at this; exact absurd this (Nat.not_lt_zero _)
    | succ n => exact⟨n, rfl⟩
  unfold keyOf
  rw[Tryz.underlying24]
  simp only[hk, hf, Bool.and_self, if_true]
  rw[hm]
  unfold Program.keyLits
  rw[Tryz.underlying24]
  simp[Value.cells, dCells, hs, keyLits_str m h0, keyLits_str m h1, klA]
def sA {H : Type}(l : List DA)(k : Nat) : DataW H := setOf (.lit (.bool true)) ((l.take k).map klA)
theorem sA_succ {H : Type}(l : List DA)(k : Nat)(hk : k<l.length) : sA (H := H) l (k + 1) = (sA l k).put (klA l[k]) (.lit (.bool true)) := by
  unfold sA
  rw[List.take_succ_eq_append_getElem hk, List.map_append, List.map_singleton, setOf_snoc]
theorem sA_zero {H : Type}(l : List DA) : sA (H := H) l 0 = .map [] := by simp[sA, setOf]
theorem dRd (l : List DA)(i : Nat)(h : i<l.length) : zq14 l (i : Int) = l[i] := by
  unfold zq14
  rw[Int.toNat_natCast, List.getD_eq_getElem?_getD, List.getElem?_eq_getElem h]
  rfl
theorem distinct_walk (A0 : Option Addr)(c0 : Nat)(l0 : List DA)(w : World)(hr0 : Kd.C k24 w A0 l0.length l0)(hc0 : l0.length ≤ c0)(hlen : l0.length<maxLen)
    (hsz : ∀ x∈l0, x.f0.size ≤ maxLen ∧ x.f1.size ≤ maxLen) :
    Calls Tryz.prog 68 #[.slice A0 l0.length c0] w fun e w' => e = .returned (.bool ((Maps.size (sA (H := Unit) l0 l0.length) : Int) == (l0.length : Int))) ∧ Below w.heap.size w w' := by
  have hmm := @run_makeMap Tryz.prog
  have hR := Aside0.mk hr0
  have hm : l0.length ≤ 9223372036854775807 := hr0.2.1
  clear hr0
  go_enter Tryz.func68, Tryz.ntmps68
  go_wp2
  go_loopw [9] (fun i wr => ∃ k : Nat, k ≤ l0.length ∧ i = .int .i64 k ∧ wr.ownsMap Tryz.prog 24 (plainElem Tryz.prog 4) w.heap.size k (sA (H := Unit) l0 k) ∧ Below w.heap.size w wr)
    (fun i _ => l0.length - (intOf i).toNat)
  case atStart => exact⟨0, Nat.zero_le _, rfl, by rw[sA_zero]; exact World.ownsMap_made _ _ _ _, (Below.refl _ _).alloc (Nat.le_refl _) _⟩
  case round =>
    obtain⟨k, hk, rfl, hown, hnx⟩ := hrel
    by_cases hlt : k<l0.length
    · obtain⟨ad, e, hx0, hx1⟩ := at_T24 hR.out (k : Int) (by omega) (by omega)
      cases e
      rw[dRd l0 k hlt]at hx0 hx1
      have hz := hsz l0[k] (List.getElem_mem hlt)
      have hkey := keyOfA hz.1 hz.2
      replace hx0 := (hnx.cell (World.block_lt_of_cell? w _ hx0)).trans hx0
      replace hx1 := (hnx.cell (World.block_lt_of_cell? w _ hx1)).trans hx1
      rw[Int.toNat_natCast]at hx0 hx1
      go_wp2_with (first
        | (at_mapUpdate; refine wpList_mapUpdate_own _ rfl _ _ _ 132 rfl 24 4 dKeyed Tryz.underlying132 (plainElem (H := Unit) Tryz.prog 4) w.heap.size k (sA l0 k) rfl (hown.alloc _) (by omega) _ _ _ rfl rfl hkey _ [] (plainElem_bool Tryz.underlying4 true) ?_; intro w1 hown1 hgrow1)
        | go_in)
      go_roundw
      case rel => exact⟨k + 1, by omega, by go_num, (sA_succ l0 k hlt).symm ▸ hown1, (hnx.alloc hnx.size _).grown hgrow1 (by simp; have := hnx.size; omega) (fun j hj => by cases hj; exact Nat.le_refl _)⟩
      case measure => simp[intOf]; omega
    · have hkl : k = l0.length := by omega
      subst hkl
      go_wp2_with (first
        | (at_len; refine wpList_len_own _ rfl _ 132 rfl 24 4 Tryz.underlying132 _ w.heap.size _ _ rfl hown ?_)
        | go_in)
      go_ret
      exact⟨rfl, hnx⟩
theorem klA_key (x : DA) : WideAt.IsKeyLit (klA x) := trivial
theorem klA_inj {x y : DA}(hx : x.f0.size ≤ maxLen ∧ x.f1.size ≤ maxLen)(hy : y.f0.size ≤ maxLen ∧ y.f1.size ≤ maxLen)(h : klA x = klA y) : (x.f0, x.f1) = (y.f0, y.f1) := by
  have := dLaw.inj (keyOfA hx.1 hx.2) (by rw[h]; exact keyOfA hy.1 hy.2)
  simpa using this
theorem sA_keys (l : List DA)(k : Nat) : ∀ x∈(l.take k).map klA, WideAt.IsKeyLit x := fun x hx => by
  obtain⟨y, _, rfl⟩ := List.mem_map.1 hx
  exact klA_key y
theorem sA_has (l : List DA)(k : Nat)(x : DA) : Maps.has (sA (H := Unit) l k) (klA x) = true↔klA x∈(l.take k).map klA := by
  unfold sA
  rw[has_setOf _ _ _ (sA_keys l k), List.any_eq_true]
  constructor
  · rintro⟨y, hy, e⟩
    rw[← WideAt.sameKey_eq e]
    exact hy
  · intro h
    exact⟨_, h, WideAt.sameKey_self (klA_key x)⟩
theorem sA_size (l : List DA) : ∀ k, k ≤ l.length → Maps.size (sA (H := Unit) l k) ≤ k ∧ (Maps.size (sA (H := Unit) l k) = k↔((l.take k).map klA).Nodup) := by
  intro k
  induction k with
  | zero => intro _; rw[sA_zero]; exact⟨Nat.le_refl _, by simp[Maps.size]⟩
  | succ k ih =>
    intro hk
    obtain⟨h1, h2⟩ := ih (by omega)
    have htidy : Tidy (sA (H := Unit) l k) := tidy_fold _ _ _ tidy_empty (sA_keys l k)
    rw[sA_succ l k (by omega), size_put htidy, List.take_succ_eq_append_getElem (by omega), List.map_append, List.map_singleton]
    by_cases hh : Maps.has (sA (H := Unit) l k) (klA l[k]) = true
    · rw[if_pos hh]
      have hmem := (sA_has l k l[k]).1 hh
      refine⟨by omega, ⟨fun e => by omega, fun e => ?_⟩⟩
      rw[List.nodup_append]at e
      exact absurd rfl (e.2.2 _ hmem _ (List.mem_singleton.2 rfl))
    · rw[if_neg hh]
      have hmem : klA l[k]∉(l.take k).map klA := fun q => hh ((sA_has l k l[k]).2 q)
      refine⟨by omega, ⟨fun e => ?_, fun e => ?_⟩⟩
      · rw[List.nodup_append]
        refine⟨h2.1 (by omega), by simp, fun a ha b hb => ?_⟩
        rw[List.mem_singleton.1 hb]
        rintro rfl
        exact hmem ha
      · rw[List.nodup_append]at e
        have := h2.2 e.1
        omega
def pairsA (l : List DA) : List (ByteArray × ByteArray) := l.map fun x => (x.f0, x.f1)
theorem nodup_keys (l : List DA)(hsz : ∀ x∈l, x.f0.size ≤ maxLen ∧ x.f1.size ≤ maxLen) : (l.map klA).Nodup↔(pairsA l).Nodup := by
  unfold pairsA
  induction l with
  | nil => simp
  | cons x l ih =>
    rw[List.map_cons, List.map_cons, List.nodup_cons, List.nodup_cons, ih (fun y hy => hsz y (List.mem_cons_of_mem _ hy))]
    have : klA x∈l.map klA↔(x.f0, x.f1)∈l.map (fun x => (x.f0, x.f1)) := by
      constructor
      · intro h
        obtain⟨y, hy, e⟩ := List.mem_map.1 h
        exact List.mem_map.2 ⟨y, hy, klA_inj (hsz y (List.mem_cons_of_mem _ hy)) (hsz x (List.mem_cons_self ..)) e⟩
      · intro h
        obtain⟨y, hy, e⟩ := List.mem_map.1 h
        refine List.mem_map.2 ⟨y, hy, ?_⟩
        unfold klA
        rw[(Prod.mk.inj e).1, (Prod.mk.inj e).2]
    rw[this]
def yaL.f (l0 : List DA) : Option Bool :=
  if(∀ x∈l0, x.f0.size ≤ maxLen ∧ x.f1.size ≤ maxLen) ∧ l0.length<maxLen then some (decide (pairsA l0).Nodup)else none
theorem yaL.calls (A0 : Option Addr)(c0 : Nat)(l0 : List DA)(r : Bool)(w : World)(hr0 : Kd.C k24 w A0 l0.length l0)(hc0 : l0.length ≤ c0)(h : yaL.f l0 = some r) :
    Calls Tryz.prog 68 #[.slice A0 l0.length c0] w fun e w' => e = .returned (.bool r) ∧ Below w.heap.size w w' := by
  unfold yaL.f at h
  split at h
  · rename_i hs
    injection h with h
    subst h
    refine(distinct_walk A0 c0 l0 w hr0 hc0 hs.2 hs.1).mono ?_
    rintro e w' ⟨rfl, hb⟩
    refine⟨?_, hb⟩
    congr 2
    obtain⟨_, h2⟩ := sA_size l0 l0.length (Nat.le_refl _)
    rw[List.take_length, nodup_keys l0 hs.1]at h2
    rw[Bool.eq_iff_iff, beq_iff_eq, decide_eq_true_eq, ← h2]
    omega
  · cases h
end Go.Proofs.YtjdpdkdhfnpcgaaGreatDoor.Q
