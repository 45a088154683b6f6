/- Of texts of ours what this claim needs. -/
import Derived.Test.YthkibaldmjfmmaaDoorZzFnCliNewSQ0
import Derived.Lib.Index
import Derived.Lib.IndexMore
import Derived.Lib.Strings
import Derived.Test.YthkibaldmjfmmaaDoorZzFnCliNewSHSplit
import Derived.Lib.SplitLaws
import Derived.Lib.IndexLaws
import Derived.Test.YthkibaldmjfmmaaDoorZzFnCliNewSQ13
import Derived.Test.YthkibaldmjfmmaaDoorZzFnCliNewSQ14
import Derived.Test.YthkibaldmjfmmaaDoorZzFnCliNewSQ7
import Derived.Test.YthkibaldmjfmmaaDoorZzFnCliNewSQ15
import Derived.Test.YthkibaldmjfmmaaDoorZzFnCliNewSQ9
import Derived.Test.YthkibaldmjfmmaaDoorZzFnCliNewSQ8
import Derived.Test.YthkibaldmjfmmaaDoorZzFnCliNewSHDist
import Derived.Test.YthkibaldmjfmmaaDoorZzFnCliNewSQ16
import Derived.Test.YthkibaldmjfmmaaDoorZzFnCliNewSQ11
import Derived.Test.YthkibaldmjfmmaaDoorZzFnCliNewSQ2
import Derived.Test.YthkibaldmjfmmaaDoorZzFnCliNewSQ3
import Derived.Test.YthkibaldmjfmmaaDoorZzFnCliNewSQ5
import Derived.Test.YthkibaldmjfmmaaDoorZzFnCliNewSQ4
import Derived.Test.YthkibaldmjfmmaaDoorZzFnCliNewSQ6
import Derived.Test.YthkibaldmjfmmaaDoorZzFnCliNewSQ19
import Derived.Test.YthkibaldmjfmmaaDoorZzFnCliNewSQ20
import Derived.Test.YthkibaldmjfmmaaDoorZzFnCliNewSQ21
import Derived.Test.YthkibaldmjfmmaaDoorZzFnCliNewSQ12
import Derived.Test.YthkibaldmjfmmaaDoorZzFnCliNewSQ18
namespace Go.Proofs.YthkibaldmjfmmaaDoor.Q
open Go.RowKit Go.Proofs.YthkibaldmjfmmaaDoorW.PrintWords Go.Proofs.YthkibaldmjfmmaaDoorW.PrintLast Go.Proofs.YthkibaldmjfmmaaDoorW.PrintMore
set_option linter.unusedVariables false
set_option linter.unusedSimpArgs false
section rounds
variable {α β:Type} {g g' f:Nat→Option α} {r:α}
theorem Ev.pos {c:Prop} [Decidable c] (h:c) (e:Ev g r):Ev (fun k=>if c then g k else g' k) r:=by
 obtain ⟨K,hK⟩:=e
 exact ⟨K,fun k hk=>(if_pos h).trans (hK k hk)⟩
theorem Ev.neg {c:Prop} [Decidable c] (h:¬ c) (e:Ev g' r):Ev (fun k=>if c then g k else g' k) r:=by
 obtain ⟨K,hK⟩:=e
 exact ⟨K,fun k hk=>(if_neg h).trans (hK k hk)⟩
theorem Ev.ret (r:α):Ev (fun _=>some r) r:=⟨0,fun _ _=>rfl⟩
theorem Ev.k {x:Option α} (h:x=some r):Ev (fun _=>x) r:=⟨0,fun _ _=>h⟩
theorem Ev.bnd {h:Nat→Option α} {F:Nat→α→Option β} {a:α} {r:β} (e:Ev h a) (k:Ev (fun n=>F n a) r):Ev (fun n=>(h n).bind (F n)) r:=Ev.bind e k
theorem Ev.eq {r':α} (e:Ev g r) (h:r=r'):Ev g r':=h ▸ e
theorem Ev.ex (h:Ev g r):∃ k,g k=some r:=by
 obtain ⟨K,hK⟩:=h
 exact ⟨K,hK K (Nat.le_refl _)⟩
end rounds
theorem w64 {x:Int} (h0:-9223372036854775808≤x) (h1:x≤9223372036854775807):wrap64 x=x:=by unfold wrap64;omega
theorem wsucc {i:Nat} (h:i≤9223372036854775806):wrap64 ((i:Int)+1)=((i+1:Nat):Int):=by rw [w64 (by omega) (by omega)];omega
theorem wf_u8 {x:Int} (h:(Lit.int .u8 x).wf=true):0≤x∧x≤255:=by
 simpa [Lit.wf,IntKind.min,IntKind.max,IntKind.signed,IntKind.bits] using h
abbrev LL (s:ByteArray):List UInt8:=s.data.toList
abbrev BB (l:List UInt8):ByteArray:=⟨l.toArray⟩
theorem BB_LL (s:ByteArray):BB (LL s)=s:=by cases s;simp
theorem LL_BB (l:List UInt8):LL (BB l)=l:=by simp
theorem LL_inj {a b:ByteArray} (h:LL a=LL b):a=b:=by rw [← BB_LL a,← BB_LL b,h]
theorem toList_LL (s:ByteArray):s.toList=LL s:=Lib.toList_data s
theorem toList_eq {a b:ByteArray}:a.toList=b.toList ↔ a=b:=by
 rw [toList_LL,toList_LL]
 exact ⟨LL_inj,fun h=>by rw [h]⟩
theorem toList_beq (a b:ByteArray):(a.toList==b.toList)=decide (a=b):=by
 by_cases h:a=b
 ·subst h;simp
 ·rw [decide_eq_false h,beq_eq_false_iff_ne]
  exact fun e=>h (toList_eq.1 e)
theorem toList_BB {a:ByteArray} {l:List UInt8}:a.toList=l ↔ a=BB l:=by
 rw [toList_LL]
 constructor
 ·intro h;rw [← BB_LL a,h]
 ·intro h;rw [h,LL_BB]
theorem size_LL (s:ByteArray):s.size=(LL s).length:=Lib.size_eq s
theorem size_BB (l:List UInt8):(BB l).size=l.length:=by rw [size_LL,LL_BB]
theorem LL_extract (s:ByteArray) (a b:Nat):LL (s.extract a b)=((LL s).drop a).take (b - a):=Lib.extract_data s a b
theorem extract_BB (s:ByteArray) (a b:Nat):s.extract a b=BB (((LL s).drop a).take (b - a)):=LL_inj (by rw [LL_extract,LL_BB])
theorem bt_get (s:ByteArray) (i:Nat) (h:i < s.size):∃ c,(LL s)[i]?=some c∧bt s (i:Int)=(c.toNat:Int):=by
 have hl:i < (LL s).length:=by rw [← size_LL];exact h
 refine ⟨(LL s)[i],List.getElem?_eq_getElem hl,?_⟩
 unfold bt
 simp only [Int.toNat_natCast]
 rw [dif_pos h]
 rfl
theorem drop_bt (s:ByteArray) (i:Nat) (h:i < s.size):∃ c,(LL s).drop i=c :: (LL s).drop (i+1)∧bt s (i:Int)=(c.toNat:Int):=by
 obtain ⟨c,hc,hb⟩:=bt_get s i h
 have hl:i < (LL s).length:=by rw [← size_LL];exact h
 refine ⟨c,?_,hb⟩
 rw [List.drop_eq_getElem_cons hl]
 rw [List.getElem?_eq_getElem hl] at hc
 rw [Option.some.inj hc]
theorem u8_ext {c d:UInt8} (h:c.toNat=d.toNat):c=d:=UInt8.toNat.inj h
theorem rd_get (l:List ByteArray) (i:Nat) (h:i < l.length):rdOf ByteArray.empty l (i:Int)=l[i]:=by
 unfold rdOf
 rw [Int.toNat_natCast,List.getD_eq_getElem?_getD,List.getElem?_eq_getElem h]
 rfl
theorem drop_rd (l:List ByteArray) (i:Nat) (h:i < l.length):l.drop i=rdOf ByteArray.empty l (i:Int) :: l.drop (i+1):=by
 rw [rd_get l i h,List.drop_eq_getElem_cons h]
theorem mem_rd (l:List ByteArray) (i:Nat) (h:i < l.length):rdOf ByteArray.empty l (i:Int) ∈ l:=by
 rw [rd_get l i h]
 exact List.getElem_mem h
theorem int_of_nat {i:Int} (h:0≤i):∃ n:Nat,i=(n:Int):=⟨i.toNat,by omega⟩
end Go.Proofs.YthkibaldmjfmmaaDoor.Q
namespace Go.Proofs.YthkibaldmjfmmaaDoor.Q
open Go.RowKit Go.Proofs.YthkibaldmjfmmaaDoorW.PrintWords Go.Proofs.YthkibaldmjfmmaaDoorW.PrintLast Go.Proofs.YthkibaldmjfmmaaDoorW.PrintMore
set_option linter.unusedVariables false
set_option linter.unusedSimpArgs false
theorem occ1_iff (l:List UInt8) (c:UInt8) (j:Nat):Lib.occAt l [c] j=true ↔ l[j]?=some c:=by
 unfold Lib.occAt
 have e0:l[j]?=(l.drop j)[0]?:=by rw [List.getElem?_drop,Nat.add_zero]
 rw [e0]
 cases l.drop j with
 | nil=>simp [List.isPrefixOf]
 | cons a t=>simp [List.isPrefixOf];exact eq_comm
abbrev cuts (c:UInt8) (n:Nat) (l:List UInt8):List (List UInt8):=Lib.splitK [c] 0 n l
theorem cuts_at {c:UInt8} {n i:Nat} {l:List UInt8} (h:Lib.index l [c]=(i:Int)):cuts c (n+1) l=l.take i :: cuts c n (l.drop (i+1)):=by
 unfold cuts
 rw [Lib.splitK,if_neg (fun e=>by have:=beq_iff_eq.1 e;omega),h]
 rfl
theorem cuts_none {c:UInt8} {n:Nat} {l:List UInt8} (h:Lib.index l [c]=-1):cuts c n l=[l]:=by
 unfold cuts
 cases n with
 | zero=>rfl
 | succ n=>rw [Lib.splitK,if_pos (beq_iff_eq.2 h)]
theorem index1_cases (l:List UInt8) (c:UInt8):Lib.index l [c]=-1 ∨ ∃ i:Nat,Lib.index l [c]=i∧i < l.length:=by
 rcases Lib.index_spec l [c] with ⟨h,_⟩|⟨i,h,_⟩
 ·exact .inl h
 ·have:=Lib.index_room l [c] (by omega)
  simp at this
  exact .inr ⟨i,h,by omega⟩
theorem cuts_hit {c:UInt8} {n i:Nat} {l:List UInt8} (hi:l[i]?=some c) (hno:∀ j,j < i→l[j]?≠some c):cuts c (n+1) l=l.take i :: cuts c n (l.drop (i+1)):=by
 have hil:=(List.getElem?_eq_some_iff.1 hi).1
 refine cuts_at (Lib.index_first (by omega) ((occ1_iff l c i).2 hi) (fun j hj=>?_))
 rw [← Bool.not_eq_true,occ1_iff]
 exact hno j hj
theorem cuts_miss {c:UInt8} {n:Nat} {l:List UInt8} (hno:∀ j:Nat,l[j]?≠some c):cuts c n l=[l]:=by
 refine cuts_none ?_
 have:Lib.index l [c]=-1:=Lib.index_none (fun j _=>by rw [← Bool.not_eq_true,occ1_iff];exact hno j)
 exact this
theorem cuts_len (c:UInt8):∀ (n:Nat) (l:List UInt8),(cuts c n l).length=min n (Lib.count l [c])+1:=by
 intro n
 induction n with
 | zero=>intro l;simp [Lib.splitK]
 | succ n ih =>
  intro l
  rcases index1_cases l c with h|⟨i,h,_⟩
  ·rw [cuts_none h,Lib.count_miss h];simp
  ·rw [cuts_at h,List.length_cons,ih,Lib.count_hit (by simp) h]
   simp only [List.length_cons,List.length_nil,Nat.zero_add]
   omega
theorem cuts_more (c:UInt8):∀ (n:Nat) (l:List UInt8),Lib.count l [c]≤n→cuts c n l=cuts c (Lib.count l [c]) l:=by
 intro n
 induction n with
 | zero=>intro l h;rw [show Lib.count l [c]=0 by omega]
 | succ n ih =>
  intro l h
  rcases index1_cases l c with hm|⟨i,hm,_⟩
  ·rw [cuts_none hm,cuts_none hm]
  ·have e:=Lib.count_hit (s:=l) (sub:=[c]) (by simp) hm
   simp only [List.length_cons,List.length_nil,Nat.zero_add] at e
   rw [cuts_at hm,e,Nat.add_comm 1,cuts_at hm,ih _ (by omega)]
theorem splitL_eq (s:ByteArray) (c:UInt8):splitL s ⟨#[c]⟩=(cuts c (Lib.count (LL s) [c]) (LL s)).map BB:=by
 have h:=Lib.splitB_data ⟨#[c]⟩ 0 (Lib.countB s ⟨#[c]⟩) s
 have e:(splitL s ⟨#[c]⟩).map LL=cuts c (Lib.count (LL s) [c]) (LL s):=h
 rw [← e,List.map_map]
 conv=>lhs;rw [← List.map_id (splitL s ⟨#[c]⟩)]
 exact List.map_congr_left (fun x _=>(BB_LL x).symm)
theorem splitL_len (s:ByteArray) (c:UInt8):(splitL s ⟨#[c]⟩).length≤s.size+1:=by
 unfold splitL
 have h1:=Lib.splitB_length_le ⟨#[c]⟩ 0 (Lib.countB s ⟨#[c]⟩) s
 have h2:=Lib.countB_le ⟨#[c]⟩ (Nat.le_refl 1) s.size s (Nat.le_refl _)
 omega
theorem l1Cut_loop (s:ByteArray) (c:UInt8) (n:Nat) (hn:n≤1000000) (hm:s.size≤1099511627776):∀ d i:Nat,i+d=s.size→∀ (out:List ByteArray) (a m:Nat),a≤i→out.length+m=n→(∀ j,a≤j→j < i→(LL s)[j]?≠some c) →
 Ev (fun k=>spec_l1Cut.l0 k s (c.toNat:Int) (n:Int) out (a:Int) (i:Int)) (out++(cuts c m ((LL s).drop a)).map BB):=by
 have hsz:=size_LL s
 have hlast:∀ (out:List ByteArray) (a i:Nat),a≤s.size→out.length≤1000000→Ev (fun k=>spec_l1Cut.j1 k s (c.toNat:Int) (n:Int) out (a:Int) (i:Int) false) (out++[BB ((LL s).drop a)]):=by
  intro out a i ha ho
  refine Ev.step (fun k=>by rw [spec_l1Cut.j1]) ?_
  refine Ev.neg (by simp) (Ev.pos (by omega) (Ev.pos (by omega) (Ev.pos (by omega) (Ev.eq (Ev.ret _) ?_))))
  rw [Int.toNat_natCast,extract_BB,List.take_of_length_le (by rw [List.length_drop];omega)]
 intro d
 induction d with
 | zero =>
  intro i hi out a m hai hom hno
  refine Ev.step (fun k=>by rw [spec_l1Cut.l0]) ?_
  refine Ev.neg (by omega) ?_
  rw [cuts_miss (fun j=>?_)]
  ·exact hlast out a i (by omega) (by omega)
  ·rw [List.getElem?_drop]
   by_cases hj:a+j < i
   ·exact hno _ (by omega) hj
   ·rw [List.getElem?_eq_none (by omega)];simp
 | succ d ih =>
  intro i hi out a m hai hom hno
  refine Ev.step (fun k=>by rw [spec_l1Cut.l0]) ?_
  refine Ev.pos (by omega) ?_
  cases m with
  | zero =>
   rw [show (decide ((out.length:Int) < (n:Int)))=false by rw [decide_eq_false_iff_not];omega]
   exact hlast out a i (by omega) (by omega)
  | succ m =>
   rw [show (decide ((out.length:Int) < (n:Int)))=true by rw [decide_eq_true_eq];omega]
   refine Ev.step (fun k=>by rw [spec_l1Cut.j1]) ?_
   refine Ev.pos rfl (Ev.pos (by omega) (Ev.pos (by omega) ?_))
   obtain ⟨b,hb,hbt⟩:=bt_get s i (by omega)
   rw [hbt,wsucc (by omega)]
   by_cases h:b=c
   ·subst h
    refine Ev.pos rfl (Ev.pos (by omega) (Ev.pos (by omega) (Ev.pos (by omega) (Ev.pos (by omega) ?_))))
    have e:=cuts_hit (c:=b) (n:=m) (i:=i - a) (l:=(LL s).drop a) (by rw [List.getElem?_drop,show a+(i - a)=i by omega];exact hb) (fun j hj=>by rw [List.getElem?_drop];exact hno _ (by omega) (by omega))
    rw [e,List.drop_drop,show a+(i - a+1)=i+1 by omega]
    refine Ev.eq (ih (i+1) (by omega) _ (i+1) m (Nat.le_refl _) (by simp;omega) (fun j h1 h2=>by omega)) ?_
    rw [Int.toNat_natCast,Int.toNat_natCast,extract_BB,List.append_assoc]
    rfl
   ·refine Ev.neg (fun e=>h (u8_ext (by omega))) ?_
    refine ih (i+1) (by omega) out a (m+1) (by omega) hom (fun j h1 h2=>?_)
    by_cases hj:j < i
    ·exact hno j h1 hj
    ·rw [show j=i by omega,hb]
     simpa using h
theorem l1Cut_ev (s:ByteArray) (c:UInt8) (n:Nat) (hn:n≤1000000) (hm:s.size≤1099511627776):Ev (fun k=>spec_l1Cut.f k s (c.toNat:Int) (n:Int)) ((cuts c n (LL s)).map BB):=by
 have:=l1Cut_loop s c n hn hm s.size 0 (by omega) [] 0 n (Nat.le_refl _) (by simp) (fun j _ h=>by omega)
 exact this
def wordCh (b:UInt8):Bool:=decide (97≤b.toNat∧b.toNat≤122) || decide (48≤b.toNat∧b.toNat≤57)
def wordL (l:List UInt8):Bool:=l.all wordCh && decide (1≤l.length∧l.length≤8)
theorem l1In_ev (a b c:Int):spec_l1In.f a b c=some (decide (b≤a∧a≤c)):=by
 unfold spec_l1In.f
 by_cases h:a≥b
 ·rw [if_pos h]
  congr 1
  rw [decide_eq_decide]
  omega
 ·rw [if_neg h]
  congr 1
  symm
  rw [decide_eq_false_iff_not]
  omega
theorem within_ev (a b c:Int):impl_within.f a b c=some (decide (b≤a∧a≤c)):=l1In_ev a b c
theorem l1Word_loop (s:ByteArray) (hm:s.size≤9223372036854775807):∀ d i:Nat,i+d=s.size→Ev (fun k=>spec_l1Word.l0 k s (i:Int)) (((LL s).drop i).all wordCh && decide (1≤(LL s).length∧(LL s).length≤8)):=by
 have hsz:=size_LL s
 intro d
 induction d with
 | zero =>
  intro i hi
  refine Ev.step (fun k=>by rw [spec_l1Word.l0]) ?_
  refine Ev.neg (by omega) (Ev.bnd (Ev.k (l1In_ev _ _ _)) (Ev.eq (Ev.ret _) ?_))
  rw [List.drop_of_length_le (by omega),List.all_nil,Bool.true_and,decide_eq_decide]
  omega
 | succ d ih =>
  intro i hi
  obtain ⟨c,hc,hb⟩:=drop_bt s i (by omega)
  have:=ih (i+1) (by omega)
  refine Ev.step (fun k=>by rw [spec_l1Word.l0]) ?_
  refine Ev.pos (by omega) (Ev.pos (by omega) ?_)
  rw [hb,hc,List.all_cons,wsucc (by omega)]
  by_cases h:wordCh c=true
  ·rw [h,Bool.true_and]
   unfold wordCh at h
   simp only [Bool.or_eq_true,decide_eq_true_eq] at h
   by_cases h1:(c.toNat:Int) < 97
   ·exact Ev.pos h1 (Ev.neg (by omega) (Ev.neg (by omega) this))
   ·exact Ev.neg h1 (Ev.neg (by omega) this)
  ·rw [Bool.not_eq_true] at h
   rw [h,Bool.false_and,Bool.false_and]
   unfold wordCh at h
   simp only [Bool.or_eq_false_iff,decide_eq_false_iff_not] at h
   by_cases h1:(c.toNat:Int) < 97
   ·refine Ev.pos h1 ?_
    by_cases h2:(c.toNat:Int) < 48
    ·exact Ev.pos h2 (Ev.ret _)
    ·exact Ev.neg h2 (Ev.pos (by omega) (Ev.ret _))
   ·exact Ev.neg h1 (Ev.pos (by omega) (Ev.neg (by omega) (Ev.pos (by omega) (Ev.ret _))))
theorem l1Word_ev (s:ByteArray) (hm:s.size≤9223372036854775807):Ev (fun k=>spec_l1Word.f k s) (wordL (LL s)):=l1Word_loop s hm s.size 0 (by omega)
theorem dropWhile_nil (p:UInt8→Bool) (l:List UInt8):l.dropWhile p=[] ↔ ∀ x ∈ l,p x=true:=by
 induction l with
 | nil=>simp
 | cons a t ih =>
  rw [List.dropWhile_cons]
  by_cases h:p a=true
  ·rw [if_pos h,ih]
   constructor
   ·intro e x hx
    rcases List.mem_cons.1 hx with q|hx
    ·rw [q];exact h
    ·exact e x hx
   ·intro e x hx
    exact e x (List.mem_cons_of_mem _ hx)
  ·rw [if_neg h]
   constructor
   ·intro e;cases e
   ·intro e;exact absurd (e a (List.mem_cons_self ..)) h
theorem trimS_nil (l cs:List UInt8):Lib.trimS l cs=[] ↔ l.all (cs.contains ·)=true:=by
 unfold Lib.trimS Lib.trimLeftS Lib.trimRightS
 rw [dropWhile_nil]
 constructor
 ·intro h
  have:l.reverse.dropWhile (cs.contains ·)=[]:=by
   cases e:l.reverse.dropWhile (cs.contains ·) with
   | nil=>rfl
   | cons y t =>
    have h1:=h y (by rw [e];simp)
    have h2:=List.head_dropWhile_not (p:=(cs.contains ·)) (l:=l.reverse) (by rw [e];simp)
    simp only [e,List.head_cons] at h2
    rw [h1] at h2
    cases h2
  rw [dropWhile_nil] at this
  rw [List.all_eq_true]
  exact fun x hx=>this x (List.mem_reverse.2 hx)
 ·intro h x hx
  rw [List.all_eq_true] at h
  have:x ∈ l.reverse:=(List.dropWhile_sublist _).subset (List.mem_reverse.1 hx)
  exact h x (List.mem_reverse.1 this)
def wordCs:List UInt8:=[97,98,99,100,101,102,103,104,105,106,107,108,109,110,111,112,113,114,115,116,117,118,119,120,121,122,48,49,50,51,52,53,54,55,56,57]
theorem wordCs_all:∀ n:Fin 256,wordCs.contains (UInt8.ofNat n.val)=wordCh (UInt8.ofNat n.val):=by decide +kernel
theorem wordCs_ok (b:UInt8):wordCs.contains b=wordCh b:=by
 have:=wordCs_all ⟨b.toNat,b.toNat_lt⟩
 simpa using this
theorem isLabel_f (s:ByteArray) (hm:s.size≤9223372036854775807):impl_isLabel.f s=some (wordL (LL s)):=by
 have hsz:=size_LL s
 unfold impl_isLabel.f wordL
 rw [within_ev]
 simp only [Option.bind_some]
 by_cases h:(1:Int)≤(s.size:Int)∧(s.size:Int)≤8
 ·rw [if_pos (by simpa using h)]
  have ht:strings_Trim.f s (⟨#[97,98,99,100,101,102,103,104,105,106,107,108,109,110,111,112,113,114,115,116,117,118,119,120,121,122,48,49,50,51,52,53,54,55,56,57]⟩:ByteArray)=some (BB (Lib.trimS (LL s) wordCs)):=by
   unfold strings_Trim.f
   rw [if_pos ⟨hm,by decide,by decide⟩]
   rfl
  rw [ht]
  simp only [Option.bind_some]
  rw [show decide (1≤(LL s).length∧(LL s).length≤8)=true by rw [decide_eq_true_eq];omega,Bool.and_true]
  congr 1
  rw [Bool.eq_iff_iff,beq_iff_eq,toList_BB]
  have e:BB (Lib.trimS (LL s) wordCs)=BB [] ↔ Lib.trimS (LL s) wordCs=[]:=⟨fun e=>by have:=congrArg LL e;rw [LL_BB,LL_BB] at this;exact this,fun e=>by rw [e]⟩
  rw [e,trimS_nil]
  have:(fun x=>wordCs.contains x)=wordCh:=funext wordCs_ok
  rw [this]
 ·rw [if_neg (by simpa using h)]
  rw [show decide (1≤(LL s).length∧(LL s).length≤8)=false by rw [decide_eq_false_iff_not];omega,Bool.and_false]
def domL (l:List UInt8):Bool:=(cuts 46 3 l).all wordL && decide ((cuts 46 3 l).length≤3)
theorem domL_all (l:List UInt8):domL l=((cuts 46 (Lib.count l [46]) l).all wordL && decide ((cuts 46 (Lib.count l [46]) l).length≤3)):=by
 unfold domL
 by_cases h:Lib.count l [46]≤3
 ·rw [cuts_more 46 3 l h]
 ·have e1:=cuts_len 46 3 l
  have e2:=cuts_len 46 (Lib.count l [46]) l
  rw [show decide ((cuts 46 3 l).length≤3)=false by rw [decide_eq_false_iff_not];omega,show decide ((cuts 46 (Lib.count l [46]) l).length≤3)=false by rw [decide_eq_false_iff_not];omega,Bool.and_false,Bool.and_false]
theorem all_drop_rd (x:List ByteArray) (i:Nat) (h:i < x.length) (p:ByteArray→Bool):(x.drop i).all p=(p (rdOf ByteArray.empty x (i:Int)) && (x.drop (i+1)).all p):=by rw [drop_rd x i h,List.all_cons]
theorem l1Domain_loop (x:List ByteArray) (hx:x.length≤1000000) (hs:∀ s ∈ x,s.size≤9223372036854775807):∀ d i:Nat,i+d=x.length→Ev (fun k=>spec_l1Domain.l0 k x (i:Int)) ((x.drop i).all (fun s=>wordL (LL s)) && decide (x.length≤3)):=by
 intro d
 induction d with
 | zero =>
  intro i hi
  refine Ev.step (fun k=>by rw [spec_l1Domain.l0]) ?_
  refine Ev.neg (by omega) (Ev.eq (Ev.ret _) ?_)
  rw [List.drop_of_length_le (by omega),List.all_nil,Bool.true_and,decide_eq_decide]
  omega
 | succ d ih =>
  intro i hi
  refine Ev.step (fun k=>by rw [spec_l1Domain.l0]) ?_
  refine Ev.pos (by omega) (Ev.pos (by omega) (Ev.bnd (l1Word_ev _ (hs _ (mem_rd x i (by omega)))) ?_))
  rw [all_drop_rd x i (by omega),wsucc (by omega)]
  by_cases h:wordL (LL (rdOf ByteArray.empty x (i:Int)))=true
  ·refine Ev.pos h (Ev.eq (ih (i+1) (by omega)) ?_)
   rw [h,Bool.true_and]
  ·refine Ev.neg h (Ev.eq (Ev.ret _) ?_)
   rw [Bool.not_eq_true] at h
   rw [h,Bool.false_and,Bool.false_and]
theorem cuts_size (c:UInt8):∀ (n:Nat) (l:List UInt8),∀ p ∈ cuts c n l,p.length≤l.length:=by
 intro n
 induction n with
 | zero=>intro l p hp;rw [List.mem_singleton.1 hp];exact Nat.le_refl _
 | succ n ih =>
  intro l p hp
  rcases index1_cases l c with h|⟨i,h,_⟩
  ·rw [cuts_none h] at hp
   rw [List.mem_singleton.1 hp];exact Nat.le_refl _
  ·rw [cuts_at h] at hp
   rcases List.mem_cons.1 hp with rfl|hp
   ·rw [List.length_take];omega
   ·have:=ih _ p hp
    rw [List.length_drop] at this
    omega
theorem l1Domain_ev (s:ByteArray) (hm:s.size≤1099511627776):Ev (fun k=>spec_l1Domain.f k s) (domL (LL s)):=by
 have hsz:=size_LL s
 unfold spec_l1Domain.f
 refine Ev.bnd (l1Cut_ev s 46 3 (by omega) hm) ?_
 have hl:=cuts_len 46 3 (LL s)
 have:=l1Domain_loop ((cuts 46 3 (LL s)).map BB) (by rw [List.length_map];omega) (fun t ht=>by
  obtain ⟨u,hu,rfl⟩:=List.mem_map.1 ht
  have:=cuts_size 46 3 (LL s) u hu
  rw [size_BB]
  omega) _ 0 (by simp;rfl)
 refine Ev.eq this ?_
 unfold domL
 rw [List.drop_zero,List.all_map,List.length_map]
 rfl
theorem implDomainOk_loop (x3 x:List ByteArray) (h3:x3.length≤1099511627777) (hx:x.length≤1099511627777) (hs:∀ s ∈ x,s.size≤9223372036854775807):∀ d i:Nat,i+d=x.length→Ev (fun k=>impl_DomainOk.l0 k x3 x (x.length:Int) (i:Int)) ((x.drop i).all (fun s=>wordL (LL s)) && decide (x3.length≤3)):=by
 intro d
 induction d with
 | zero =>
  intro i hi
  refine Ev.step (fun k=>by rw [impl_DomainOk.l0]) ?_
  refine Ev.neg (by omega) (Ev.eq (Ev.ret _) ?_)
  rw [List.drop_of_length_le (by omega),List.all_nil,Bool.true_and,decide_eq_decide]
  omega
 | succ d ih =>
  intro i hi
  refine Ev.step (fun k=>by rw [impl_DomainOk.l0]) ?_
  refine Ev.pos (by omega) (Ev.pos (by omega) (Ev.pos (by omega) (Ev.bnd (Ev.k (isLabel_f _ (hs _ (mem_rd x i (by omega))))) ?_)))
  rw [all_drop_rd x i (by omega),wsucc (by omega)]
  by_cases h:wordL (LL (rdOf ByteArray.empty x (i:Int)))=true
  ·refine Ev.pos h (Ev.eq (ih (i+1) (by omega)) ?_)
   rw [h,Bool.true_and]
  ·refine Ev.neg h (Ev.eq (Ev.ret _) ?_)
   rw [Bool.not_eq_true] at h
   rw [h,Bool.false_and,Bool.false_and]
theorem implDomainOk_ev (s:ByteArray) (hm:s.size≤4294967280):Ev (fun k=>impl_DomainOk.f k s) (domL (LL s)):=by
 have hsz:=size_LL s
 unfold impl_DomainOk.f
 have hl:=splitL_len s 46
 have hf:strings_Split.f s ⟨#[46]⟩=some (splitL s ⟨#[46]⟩):=by
  unfold strings_Split.f
  rw [if_pos ⟨by omega,by decide,by omega⟩]
 refine Ev.bnd (Ev.k hf) ?_
 have hmem:∀ t ∈ splitL s ⟨#[46]⟩,t.size≤9223372036854775807:=fun t ht=>by
  rw [splitL_eq] at ht
  obtain ⟨u,hu,rfl⟩:=List.mem_map.1 ht
  have:=cuts_size 46 _ (LL s) u hu
  rw [size_BB]
  omega
 refine Ev.eq (implDomainOk_loop _ (splitL s ⟨#[46]⟩) (by omega) (by omega) hmem _ 0 (by simp;rfl)) ?_
 rw [domL_all,List.drop_zero,splitL_eq,List.all_map,List.length_map]
 rfl
end Go.Proofs.YthkibaldmjfmmaaDoor.Q
namespace Go.Proofs.YthkibaldmjfmmaaDoor.Q
open Go.RowKit Go.Proofs.YthkibaldmjfmmaaDoorW.PrintWords Go.Proofs.YthkibaldmjfmmaaDoorW.PrintLast Go.Proofs.YthkibaldmjfmmaaDoorW.PrintMore
set_option linter.unusedVariables false
set_option linter.unusedSimpArgs false
def chOk (c:UInt8):Bool:=decide (32≤c.toNat) && decide (c.toNat≤126)
def lineOk (s:ByteArray):Bool:=(LL s).all chOk && decide (s.size≤40)
def bodyOk (l:List ByteArray):Bool:=l.all lineOk && decide (l.length≤12)
theorem l2LineOk_loop (s:ByteArray) (hm:s.size≤9223372036854775807):∀ d i:Nat,i+d=s.size→Ev (fun k=>spec_l2LineOk.l0 k s (i:Int)) (((LL s).drop i).all chOk && decide (s.size≤40)):=by
 intro d
 induction d with
 | zero =>
  intro i hi
  refine Ev.step (fun k=>by rw [spec_l2LineOk.l0]) ?_
  refine Ev.neg (by omega) (Ev.k ?_)
  rw [List.drop_of_length_le (by rw [← size_LL];omega)]
  simp only [List.all_nil,Bool.true_and]
  congr 1
  rw [decide_eq_decide]
  omega
 | succ d ih =>
  intro i hi
  obtain ⟨c,hc,hb⟩:=drop_bt s i (by omega)
  refine Ev.step (fun k=>by rw [spec_l2LineOk.l0]) ?_
  refine Ev.pos (by omega) (Ev.pos (by omega) ?_)
  rw [hb,hc,List.all_cons]
  by_cases h1:(c.toNat:Int) < 32
  ·refine Ev.pos h1 (Ev.k ?_)
   have:chOk c=false:=by unfold chOk;simp;omega
   rw [this];rfl
  ·refine Ev.neg h1 ?_
   by_cases h2:(c.toNat:Int) > 126
   ·refine Ev.pos h2 (Ev.k ?_)
    have:chOk c=false:=by unfold chOk;simp;omega
    rw [this];rfl
   ·refine Ev.neg h2 ?_
    have:chOk c=true:=by unfold chOk;simp;omega
    rw [this,Bool.true_and,wsucc (by omega)]
    exact ih (i+1) (by omega)
theorem l2LineOk_ev (s:ByteArray) (hm:s.size≤9223372036854775807):Ev (fun k=>spec_l2LineOk.f k s) (lineOk s):=l2LineOk_loop s hm s.size 0 (by omega)
theorem l2BodyOk_loop (l:List ByteArray) (hm:l.length≤9223372036854775807) (hs:∀ s ∈ l,s.size≤9223372036854775807):∀ d i:Nat,i+d=l.length→Ev (fun k=>spec_l2BodyOk.l0 k l (i:Int)) ((l.drop i).all lineOk && decide (l.length≤12)):=by
 intro d
 induction d with
 | zero =>
  intro i hi
  refine Ev.step (fun k=>by rw [spec_l2BodyOk.l0]) ?_
  refine Ev.neg (by omega) (Ev.k ?_)
  rw [List.drop_of_length_le (by omega)]
  simp only [List.all_nil,Bool.true_and]
  congr 1
  rw [decide_eq_decide]
  omega
 | succ d ih =>
  intro i hi
  refine Ev.step (fun k=>by rw [spec_l2BodyOk.l0]) ?_
  refine Ev.pos (by omega) (Ev.pos (by omega) ?_)
  refine Ev.bnd (l2LineOk_ev _ (hs _ (mem_rd l i (by omega)))) ?_
  rw [drop_rd l i (by omega),List.all_cons]
  by_cases h:lineOk (rdOf ByteArray.empty l (i:Int))=true
  ·refine Ev.pos h ?_
   rw [h,Bool.true_and,wsucc (by omega)]
   exact ih (i+1) (by omega)
  ·refine Ev.neg h (Ev.k ?_)
   rw [Bool.not_eq_true] at h
   rw [h];rfl
theorem l2BodyOk_ev (l:List ByteArray) (hm:l.length≤9223372036854775807) (hs:∀ s ∈ l,s.size≤9223372036854775807):Ev (fun k=>spec_l2BodyOk.f k l) (bodyOk l):=l2BodyOk_loop l hm hs l.length 0 (by omega)
theorem isLine_loop (s:ByteArray) (hm:s.size≤9223372036854775807):∀ d i:Nat,i+d=s.size→Ev (fun k=>impl_isLine.l0 k s (s.size:Int) (i:Int)) (((LL s).drop i).all chOk && decide (s.size≤40)):=by
 intro d
 induction d with
 | zero =>
  intro i hi
  refine Ev.step (fun k=>by rw [impl_isLine.l0]) ?_
  refine Ev.neg (by omega) (Ev.k ?_)
  rw [List.drop_of_length_le (by rw [← size_LL];omega)]
  simp only [List.all_nil,Bool.true_and]
  congr 1
  rw [decide_eq_decide]
  omega
 | succ d ih =>
  intro i hi
  obtain ⟨c,hc,hb⟩:=drop_bt s i (by omega)
  refine Ev.step (fun k=>by rw [impl_isLine.l0]) ?_
  refine Ev.pos (by omega) (Ev.pos (by omega) (Ev.pos (by omega) ?_))
  rw [hb,hc,List.all_cons]
  by_cases h1:(c.toNat:Int) < 32
  ·refine Ev.pos h1 (Ev.k ?_)
   have:chOk c=false:=by unfold chOk;simp;omega
   rw [this];rfl
  ·refine Ev.neg h1 ?_
   by_cases h2:(c.toNat:Int) > 126
   ·refine Ev.pos h2 (Ev.k ?_)
    have:chOk c=false:=by unfold chOk;simp;omega
    rw [this];rfl
   ·refine Ev.neg h2 ?_
    have:chOk c=true:=by unfold chOk;simp;omega
    rw [this,Bool.true_and,wsucc (by omega)]
    exact ih (i+1) (by omega)
theorem isLine_ev (s:ByteArray) (hm:s.size≤9223372036854775807):Ev (fun k=>impl_isLine.f k s) (lineOk s):=isLine_loop s hm s.size 0 (by omega)
theorem indexBody_loop (l:List ByteArray) (hm:l.length≤9223372036854775807) (hs:∀ s ∈ l,s.size≤9223372036854775807):∀ d i:Nat,i+d=l.length →
 ∃ r,Ev (fun k=>slices_IndexFunc_string_string_at97.l0 k l (l.length:Int) (i:Int)) r∧(decide (r≥0)=!(l.drop i).all lineOk):=by
 intro d
 induction d with
 | zero =>
  intro i hi
  refine ⟨-1,?_,?_⟩
  ·refine Ev.step (fun k=>by rw [slices_IndexFunc_string_string_at97.l0]) ?_
   exact Ev.neg (by omega) (Ev.ret _)
  ·rw [List.drop_of_length_le (by omega)]
   rfl
 | succ d ih =>
  intro i hi
  rw [drop_rd l i (by omega),List.all_cons]
  by_cases h:lineOk (rdOf ByteArray.empty l (i:Int))=true
  ·obtain ⟨r,hr,hd⟩:=ih (i+1) (by omega)
   refine ⟨r,?_,by rw [h,Bool.true_and];exact hd⟩
   refine Ev.step (fun k=>by rw [slices_IndexFunc_string_string_at97.l0]) ?_
   refine Ev.pos (by omega) (Ev.pos (by omega) (Ev.pos (by omega) ?_))
   refine Ev.bnd (a:=false) (by unfold impl_isBody_1.f;exact Ev.bnd (isLine_ev _ (hs _ (mem_rd l i (by omega)))) (Ev.k (by rw [h];rfl))) ?_
   refine Ev.neg (by simp) ?_
   rw [wsucc (by omega)]
   exact hr
  ·rw [Bool.not_eq_true] at h
   refine ⟨(i:Int),?_,by rw [h];simp⟩
   refine Ev.step (fun k=>by rw [slices_IndexFunc_string_string_at97.l0]) ?_
   refine Ev.pos (by omega) (Ev.pos (by omega) (Ev.pos (by omega) ?_))
   refine Ev.bnd (a:=true) (by unfold impl_isBody_1.f;exact Ev.bnd (isLine_ev _ (hs _ (mem_rd l i (by omega)))) (Ev.k (by rw [h];rfl))) ?_
   exact Ev.pos rfl (Ev.ret _)
theorem isBody_ev (l:List ByteArray) (hm:l.length≤9223372036854775807) (hs:∀ s ∈ l,s.size≤9223372036854775807):Ev (fun k=>impl_isBody.f k l) (bodyOk l):=by
 unfold impl_isBody.f
 by_cases h:(l.length:Int)≤12
 ·refine Ev.pos h ?_
  obtain ⟨r,hr,hd⟩:=indexBody_loop l hm hs l.length 0 (by omega)
  refine Ev.bnd (a:=decide (r≥0)) (by unfold slices_ContainsFunc_string_string_at97.f slices_IndexFunc_string_string_at97.f;exact Ev.bnd hr (Ev.ret _)) (Ev.k ?_)
  rw [hd]
  unfold bodyOk
  have:decide (l.length≤12)=true:=by simp;omega
  rw [this]
  simp
 ·refine Ev.neg h (Ev.k ?_)
  unfold bodyOk
  have:decide (l.length≤12)=false:=by simp;omega
  rw [this]
  simp
end Go.Proofs.YthkibaldmjfmmaaDoor.Q
namespace Go.Proofs.YthkibaldmjfmmaaDoor.Q
open Go.RowKit Go.Proofs.YthkibaldmjfmmaaDoorW.PrintWords Go.Proofs.YthkibaldmjfmmaaDoorW.PrintLast Go.Proofs.YthkibaldmjfmmaaDoorW.PrintMore
set_option linter.unusedVariables false
set_option linter.unusedSimpArgs false
def addrL (u d:ByteArray):Bool:=wordL (LL u) && domL (LL d)
theorem l1AddrOk_ev (u d:ByteArray) (hu:u.size≤1099511627776) (hd:d.size≤1099511627776):Ev (fun k=>spec_l1AddrOk.f k u d) (addrL u d):=by
 unfold spec_l1AddrOk.f addrL
 refine Ev.bnd (l1Word_ev u (by omega)) ?_
 by_cases h:wordL (LL u)=true
 ·refine Ev.pos h (Ev.bnd (l1Domain_ev d hd) (Ev.eq (Ev.ret _) ?_))
  rw [h,Bool.true_and]
 ·refine Ev.neg h (Ev.eq (Ev.ret _) ?_)
  rw [Bool.not_eq_true] at h
  rw [h,Bool.false_and]
theorem implAddrOk_ev (u d:ByteArray) (hu:u.size≤4294967280) (hd:d.size≤4294967280):Ev (fun k=>impl_AddrOk.f k u d) (addrL u d):=by
 unfold impl_AddrOk.f addrL
 refine Ev.bnd (Ev.k (isLabel_f u (by omega))) ?_
 by_cases h:wordL (LL u)=true
 ·refine Ev.pos h (Ev.bnd (implDomainOk_ev d hd) (Ev.eq (Ev.ret _) ?_))
  rw [h,Bool.true_and]
 ·refine Ev.neg h (Ev.eq (Ev.ret _) ?_)
  rw [Bool.not_eq_true] at h
  rw [h,Bool.false_and]
theorem toList_nil (s:ByteArray):(s.toList==([]:List UInt8))=decide (s=⟨#[]⟩):=by
 rw [Bool.eq_iff_iff,beq_iff_eq,decide_eq_true_eq,toList_BB]
def nullA (u d:ByteArray):Bool:=decide (u=⟨#[]⟩) && decide (d=⟨#[]⟩)
theorem null_f (u d:ByteArray):impl_Addr_null.f u d=some (nullA u d):=by
 unfold impl_Addr_null.f nullA
 rw [toList_nil,toList_nil]
theorem l1Null_f (u d:ByteArray):spec_l1Null.f u d=some (nullA u d):=by
 unfold spec_l1Null.f nullA
 by_cases h:u=⟨#[]⟩
 ·rw [if_pos (toList_BB.2 h),toList_nil,h]
  simp
 ·rw [if_neg (fun e=>h (toList_BB.1 e))]
  simp [h]
def senderA (u d:ByteArray):Bool:=nullA u d || addrL u d
theorem sender_ev (u d:ByteArray) (hu:u.size≤4294967280) (hd:d.size≤4294967280):Ev (fun k=>impl_Addr_sender.f k u d) (senderA u d):=by
 unfold impl_Addr_sender.f senderA
 refine Ev.bnd (Ev.k (null_f u d)) ?_
 by_cases h:nullA u d=true
 ·refine Ev.pos h (Ev.eq (Ev.ret _) ?_)
  rw [h,Bool.true_or]
 ·refine Ev.neg h (Ev.bnd (implAddrOk_ev u d hu hd) (Ev.eq (Ev.ret _) ?_))
  rw [Bool.not_eq_true] at h
  rw [h,Bool.false_or]
end Go.Proofs.YthkibaldmjfmmaaDoor.Q
namespace Go.Proofs.YthkibaldmjfmmaaDoor.Q
open Go.RowKit Go.Proofs.YthkibaldmjfmmaaDoorW.PrintWords Go.Proofs.YthkibaldmjfmmaaDoorW.PrintLast Go.Proofs.YthkibaldmjfmmaaDoorW.PrintMore
set_option linter.unusedVariables false
set_option linter.unusedSimpArgs false
abbrev IA:=S30
section
variable {f g:Nat→Option Bool} {a b:Bool}
theorem Ev.and (hf:Ev f a) (hg:Ev g b):Ev (fun k=>(f k).bind fun t=>if t=true then g k else some false) (a && b):=by
 cases a with
 | true=>exact Ev.bnd hf (Ev.pos rfl (Ev.eq hg (Bool.true_and b).symm))
 | false=>exact Ev.bnd hf (Ev.neg (by simp) (Ev.eq (Ev.ret _) (Bool.false_and b).symm))
theorem Ev.ifand {c:Prop} [Decidable c] (hg:Ev g b):Ev (fun k=>if c then g k else some false) (decide c && b):=by
 by_cases h:c
 ·exact Ev.pos h (Ev.eq hg (by rw [decide_eq_true h,Bool.true_and]))
 ·exact Ev.neg h (Ev.eq (Ev.ret _) (by rw [decide_eq_false h,Bool.false_and]))
theorem Ev.fwd (hg:Ev g b):Ev (fun k=>(g k).bind fun t=>some t) b:=Ev.bnd hg (Ev.ret _)
end
theorem rdIA (l:List IA) (i:Nat) (h:i < l.length):zq26 l (i:Int)=l[i]:=dRd l i h
def addrA (x:IA):Bool:=addrL x.f0 x.f1
def inB (a b c:Int):Bool:=decide (b≤a∧a≤c)
def restM (u d:ByteArray) (n:Nat) (body:List ByteArray):Bool:=senderA u d && (inB n 1 4 && bodyOk body)
def mailL (u d:ByteArray) (tos:List IA) (body:List ByteArray):Bool:=(tos.all addrA && decide (pairsA tos).Nodup) && restM u d tos.length body
def MailB (u d:ByteArray) (tos:List IA) (body:List ByteArray):Prop:=u.size≤1048576∧d.size≤1048576∧(tos.length≤1048576∧∀ x ∈ tos,x.f0.size≤1048576∧x.f1.size≤1048576)∧body.length≤1048576∧∀ s ∈ body,s.size≤1048576
theorem pair_eq (x y:IA):(x.f0.toList==y.f0.toList && (x.f1.toList==y.f1.toList))=true ↔ (x.f0,x.f1)=(y.f0,y.f1):=by
 rw [toList_beq,toList_beq,Bool.and_eq_true,decide_eq_true_eq,decide_eq_true_eq,Prod.mk.injEq]
theorem pairsA_get (tos:List IA) (i:Nat) (h:i < tos.length):(pairsA tos).drop i=(tos[i].f0,tos[i].f1) :: (pairsA tos).drop (i+1):=by
 unfold pairsA
 rw [List.drop_eq_getElem_cons (by rw [List.length_map];exact h),List.getElem_map]
theorem pairsA_len (tos:List IA):(pairsA tos).length=tos.length:=by unfold pairsA;rw [List.length_map]
section
variable {u d:ByteArray} {tos:List IA} {body:List ByteArray} (hB:MailB u d tos body)
include hB
theorem l2Ok_hit (i:Nat) (hi:i < tos.length):∀ m j:Nat,j+m=i→(tos[i].f0,tos[i].f1) ∈ ((pairsA tos).drop j).take m→Ev (fun k=>spec_l2Ok.l1 k (i:Int) (j:Int) u d tos body) false:=by
 have hl:=hB.2.2.1.1
 intro m
 induction m with
 | zero=>intro j hj hc;rw [List.take_zero] at hc;cases hc
 | succ m ih =>
  intro j hj hc
  have hjl:j < tos.length:=by omega
  refine Ev.step (fun k=>by rw [spec_l2Ok.l1]) (Ev.pos (by omega) (Ev.pos (by omega) (Ev.pos (by omega) (Ev.pos (by omega) (Ev.pos (by omega) ?_)))))
  rw [pairsA_get tos j hjl,List.take_succ_cons] at hc
  rw [rdIA tos j hjl,rdIA tos i hi,wsucc (by omega)]
  by_cases h:(tos[j].f0,tos[j].f1)=(tos[i].f0,tos[i].f1)
  ·exact Ev.pos ((pair_eq _ _).2 h) (Ev.ret _)
  ·refine Ev.neg (fun q=>h ((pair_eq _ _).1 q)) (ih (j+1) (by omega) ?_)
   rcases List.mem_cons.1 hc with e|e
   ·exact absurd e.symm h
   ·exact e
theorem l2Ok_miss (i:Nat) (hi:i < tos.length) (r:Bool) (hr:Ev (fun k=>spec_l2Ok.l0 k ((i+1:Nat):Int) u d tos body) r):∀ m j:Nat,j+m=i→(tos[i].f0,tos[i].f1) ∉ ((pairsA tos).drop j).take m →
 Ev (fun k=>spec_l2Ok.l1 k (i:Int) (j:Int) u d tos body) r:=by
 have hl:=hB.2.2.1.1
 intro m
 induction m with
 | zero =>
  intro j hj _
  refine Ev.step (fun k=>by rw [spec_l2Ok.l1]) (Ev.neg (by omega) ?_)
  rw [wsucc (by omega)]
  exact hr
 | succ m ih =>
  intro j hj hc
  have hjl:j < tos.length:=by omega
  refine Ev.step (fun k=>by rw [spec_l2Ok.l1]) (Ev.pos (by omega) (Ev.pos (by omega) (Ev.pos (by omega) (Ev.pos (by omega) (Ev.pos (by omega) ?_)))))
  rw [pairsA_get tos j hjl,List.take_succ_cons] at hc
  rw [rdIA tos j hjl,rdIA tos i hi,wsucc (by omega)]
  exact Ev.neg (fun q=>hc (by rw [(pair_eq _ _).1 q];exact List.mem_cons_self ..)) (ih (j+1) (by omega) (fun q=>hc (List.mem_cons_of_mem _ q)))
theorem l2Ok_l0:∀ m i:Nat,i+m=tos.length→((pairsA tos).take i).Nodup→Ev (fun k=>spec_l2Ok.l0 k (i:Int) u d tos body) (((tos.drop i).all addrA && decide (pairsA tos).Nodup) && restM u d tos.length body):=by
 obtain ⟨h0,h1,⟨h2,h3⟩,h4,h5⟩:=hB
 have hB:MailB u d tos body:=⟨h0,h1,⟨h2,h3⟩,h4,h5⟩
 intro m
 induction m with
 | zero =>
  intro i hi hn
  rw [List.take_of_length_le (by rw [pairsA_len];omega)] at hn
  rw [List.drop_of_length_le (by omega),List.all_nil,Bool.true_and,decide_eq_true hn,Bool.true_and]
  refine Ev.step (fun k=>by rw [spec_l2Ok.l0]) (Ev.neg (by omega) (Ev.bnd (l1AddrOk_ev u d (by omega) (by omega)) ?_))
  have hin:Ev (fun k=>(spec_l1In.f (tos.length:Int) 1 4).bind fun t=>if t=true then ((spec_l2BodyOk.f k body).bind fun t=>some t) else some false) (inB tos.length 1 4 && bodyOk body) :=
   Ev.and (Ev.k (l1In_ev _ _ _)) (Ev.fwd (l2BodyOk_ev body (by omega) (fun s hs=>by have:=h5 s hs;omega)))
  unfold restM senderA
  by_cases ha:addrL u d=true
  ·exact Ev.pos ha (Ev.eq hin (by rw [ha,Bool.or_true,Bool.true_and]))
  ·rw [Bool.not_eq_true] at ha
   refine Ev.neg (by rw [ha];simp) (Ev.eq (Ev.and (Ev.k (l1Null_f u d)) hin) ?_)
   rw [ha,Bool.or_false]
 | succ m ih =>
  intro i hi hn
  have hil:i < tos.length:=by omega
  obtain ⟨z0,z1⟩:=h3 _ (List.getElem_mem hil)
  refine Ev.step (fun k=>by rw [spec_l2Ok.l0]) (Ev.pos (by omega) (Ev.pos (by omega) ?_))
  rw [rdIA tos i hil,List.drop_eq_getElem_cons hil,List.all_cons]
  refine Ev.bnd (l1AddrOk_ev _ _ (by omega) (by omega)) ?_
  have e:addrA tos[i]=addrL tos[i].f0 tos[i].f1:=rfl
  rw [e]
  by_cases ha:addrL tos[i].f0 tos[i].f1=true
  ·rw [ha,Bool.true_and]
   refine Ev.pos rfl ?_
   have ht:(pairsA tos).take (i+1)=(pairsA tos).take i++[(tos[i].f0,tos[i].f1)]:=by
    rw [List.take_succ_eq_append_getElem (by rw [pairsA_len];exact hil)]
    unfold pairsA
    rw [List.getElem_map]
   by_cases hc:(tos[i].f0,tos[i].f1) ∈ (pairsA tos).take i
   ·have hno:¬ (pairsA tos).Nodup:=fun q=>by
     have q2:((pairsA tos).take (i+1)).Nodup:=q.sublist (List.take_sublist _ _)
     rw [ht,List.nodup_append] at q2
     exact q2.2.2 _ hc _ (List.mem_singleton.2 rfl) rfl
    refine Ev.eq (l2Ok_hit hB i hil i 0 (by omega) (by rw [List.drop_zero];exact hc)) ?_
    rw [decide_eq_false hno,Bool.and_false,Bool.false_and]
   ·have hn2:((pairsA tos).take (i+1)).Nodup:=by
     rw [ht,List.nodup_append]
     refine ⟨hn,by simp,fun a ha b hb=>?_⟩
     rw [List.mem_singleton.1 hb]
     rintro rfl
     exact hc ha
    exact l2Ok_miss hB i hil _ (ih (i+1) (by omega) hn2) i 0 (by omega) (by rw [List.drop_zero];exact hc)
  ·rw [Bool.not_eq_true] at ha
   rw [ha,Bool.false_and,Bool.false_and,Bool.false_and]
   exact Ev.neg (by simp) (Ev.ret _)
theorem l2Ok_ev:Ev (fun k=>spec_l2Ok.f k u d tos body) (mailL u d tos body):=by
 have:=l2Ok_l0 hB tos.length 0 (by omega) (by simp)
 rw [List.drop_zero] at this
 exact this
theorem addrIndex_loop:∀ m i:Nat,i+m=tos.length→∃ r,Ev (fun k=>slices_IndexFunc_impl_Addr_impl_Addr_at46.l0 k tos (tos.length:Int) (i:Int)) r∧(decide (r≥0)=!(tos.drop i).all addrA):=by
 obtain ⟨h0,h1,⟨h2,h3⟩,h4,h5⟩:=hB
 intro m
 induction m with
 | zero =>
  intro i hi
  refine ⟨-1,Ev.step (fun k=>by rw [slices_IndexFunc_impl_Addr_impl_Addr_at46.l0]) (Ev.neg (by omega) (Ev.ret _)),?_⟩
  rw [List.drop_of_length_le (by omega)]
  rfl
 | succ m ih =>
  intro i hi
  have hil:i < tos.length:=by omega
  obtain ⟨z0,z1⟩:=h3 _ (List.getElem_mem hil)
  have hc:Ev (fun k=>impl_MailOk_1.f k tos[i].f0 tos[i].f1) (!addrA tos[i]):=Ev.bnd (implAddrOk_ev _ _ (by omega) (by omega)) (Ev.ret _)
  rw [List.drop_eq_getElem_cons hil,List.all_cons]
  by_cases h:addrA tos[i]=true
  ·obtain ⟨r,hr,hd⟩:=ih (i+1) (by omega)
   rw [h] at hc
   refine ⟨r,Ev.step (fun k=>by rw [slices_IndexFunc_impl_Addr_impl_Addr_at46.l0]) (Ev.pos (by omega) (Ev.pos (by omega) (Ev.pos (by omega) ?_))),by rw [h,Bool.true_and];exact hd⟩
   rw [rdIA tos i hil]
   refine Ev.bnd hc (Ev.neg (by simp) ?_)
   rw [wsucc (by omega)]
   exact hr
  ·rw [Bool.not_eq_true] at h
   rw [h] at hc
   refine ⟨(i:Int),Ev.step (fun k=>by rw [slices_IndexFunc_impl_Addr_impl_Addr_at46.l0]) (Ev.pos (by omega) (Ev.pos (by omega) (Ev.pos (by omega) ?_))),by rw [h,Bool.false_and];exact decide_eq_true (by omega)⟩
   rw [rdIA tos i hil]
   exact Ev.bnd hc (Ev.pos rfl (Ev.ret _))
theorem implMailOk_ev:Ev (fun k=>impl_MailOk.f k u d tos body) (mailL u d tos body):=by
 obtain ⟨r,hr,hd⟩:=addrIndex_loop hB tos.length 0 (by omega)
 rw [List.drop_zero] at hd
 obtain ⟨h0,h1,⟨h2,h3⟩,h4,h5⟩:=hB
 have hc:Ev (fun k=>slices_ContainsFunc_impl_Addr_impl_Addr_at46.f k tos) (!tos.all addrA):=by
  have hr':Ev (fun k=>slices_IndexFunc_impl_Addr_impl_Addr_at46.f k tos) r:=hr
  rw [← hd]
  exact Ev.bnd hr' (Ev.ret _)
 have hdi:impl_distinct_impl_Addr.f tos=some (decide (pairsA tos).Nodup):=by
  unfold impl_distinct_impl_Addr.f maxLen
  rw [if_pos ⟨fun x hx=>by have:=h3 x hx;omega,by omega⟩]
 have hin:Ev (fun k=>(impl_within.f (tos.length:Int) 1 4)) (inB tos.length 1 4):=Ev.k (within_ev _ _ _)
 have hl:Ev (fun k=>((slices_ContainsFunc_impl_Addr_impl_Addr_at46.f k tos).bind fun t109=>(if t109=true then (some false) else ((impl_distinct_impl_Addr.f tos).bind fun t110=>(if t110=true then ((impl_isBody.f k body).bind fun t111=>(some t111)) else (some false)))))) (tos.all addrA && (decide (pairsA tos).Nodup && bodyOk body)):=by
  refine Ev.bnd hc ?_
  by_cases ha:tos.all addrA=true
  ·rw [ha,Bool.true_and]
   exact Ev.neg (by simp) (Ev.and (Ev.k hdi) (Ev.fwd (isBody_ev body (by omega) (fun s hs=>by have:=h5 s hs;omega))))
  ·rw [Bool.not_eq_true] at ha
   rw [ha,Bool.false_and]
   exact Ev.pos rfl (Ev.ret _)
 unfold impl_MailOk.f
 refine Ev.eq (Ev.and (sender_ev u d (by omega) (by omega)) (Ev.and hin hl)) ?_
 unfold mailL restM
 generalize senderA u d=a
 generalize inB (tos.length:Int) 1 4=b
 generalize tos.all addrA=c
 generalize decide (pairsA tos).Nodup=e
 generalize bodyOk body=f
 cases a<;>cases b<;>cases c<;>cases e<;>cases f<;>rfl
end
end Go.Proofs.YthkibaldmjfmmaaDoor.Q
namespace Go.Proofs.YthkibaldmjfmmaaDoor.Q
open Go.RowKit Go.Proofs.YthkibaldmjfmmaaDoorW.PrintWords Go.Proofs.YthkibaldmjfmmaaDoorW.PrintLast Go.Proofs.YthkibaldmjfmmaaDoorW.PrintMore
set_option linter.unusedVariables false
theorem rdInt (l:List Int) (i:Nat) (h:i < l.length):rd l (i:Int)=l[i]:=by
 unfold rd
 rw [Int.toNat_natCast,List.getD_eq_getElem?_getD,List.getElem?_eq_getElem h]
 rfl
def outOk (x:Int):Bool:=inB x 0 4
def cliFin (state at_:Int):Bool:=if state=3 then decide (at_ > 0) else true
def cliL (name u d:ByteArray) (tos:List IA) (body:List ByteArray) (state at_:Int) (outs:List Int):Bool :=
 outs.all outOk && (mailL u d tos body && (domL (LL name) && (decide ((outs.length:Int)=(tos.length:Int)) && (inB state 0 7 && (inB at_ 0 tos.length && cliFin state at_)))))
theorem outIndex_loop {outs:List Int} (ho:outs.length≤1048576):∀ m i:Nat,i+m=outs.length→∃ r,Ev (fun k=>slices_IndexFunc_int_int_at76.l0 k outs (outs.length:Int) (i:Int)) r∧(decide (r≥0)=!(outs.drop i).all outOk):=by
 intro m
 induction m with
 | zero =>
  intro i hi
  refine ⟨-1,Ev.step (fun k=>by rw [slices_IndexFunc_int_int_at76.l0]) (Ev.neg (by omega) (Ev.ret _)),?_⟩
  rw [List.drop_of_length_le (by omega)]
  rfl
 | succ m ih =>
  intro i hi
  have hil:i < outs.length:=by omega
  have hc:impl_CliOk_1.f outs[i]=some (!outOk outs[i]):=by
   unfold impl_CliOk_1.f
   rw [within_ev]
   rfl
  rw [List.drop_eq_getElem_cons hil,List.all_cons]
  by_cases h:outOk outs[i]=true
  ·obtain ⟨r,hr,hd⟩:=ih (i+1) (by omega)
   rw [h] at hc
   refine ⟨r,Ev.step (fun k=>by rw [slices_IndexFunc_int_int_at76.l0]) (Ev.pos (by omega) (Ev.pos (by omega) (Ev.pos (by omega) ?_))),by rw [h,Bool.true_and];exact hd⟩
   rw [rdInt outs i hil]
   refine Ev.bnd (Ev.k hc) (Ev.neg (by simp) ?_)
   rw [wsucc (by omega)]
   exact hr
  ·rw [Bool.not_eq_true] at h
   rw [h] at hc
   refine ⟨(i:Int),Ev.step (fun k=>by rw [slices_IndexFunc_int_int_at76.l0]) (Ev.pos (by omega) (Ev.pos (by omega) (Ev.pos (by omega) ?_))),by rw [h,Bool.false_and];exact decide_eq_true (by omega)⟩
   rw [rdInt outs i hil]
   exact Ev.bnd (Ev.k hc) (Ev.pos rfl (Ev.ret _))
section
variable {name u d:ByteArray} {tos:List IA} {body:List ByteArray} {state at_:Int} {outs:List Int} (hB:MailB u d tos body) (hn:name.size≤1048576) (ho:outs.length≤1048576)
include hB hn ho
theorem implCliOk_ev:Ev (fun k=>impl_CliOk.f k name u d tos body state at_ outs) (cliL name u d tos body state at_ outs):=by
 have hin:∀ a b c:Int,Ev (fun _=>impl_within.f a b c) (inB a b c):=fun a b c=>Ev.k (within_ev a b c)
 obtain ⟨r,hr,hd⟩:=outIndex_loop ho outs.length 0 (by omega)
 rw [List.drop_zero] at hd
 have hc:Ev (fun k=>slices_ContainsFunc_int_int_at76.f k outs) (!outs.all outOk):=by
  have hr':Ev (fun k=>slices_IndexFunc_int_int_at76.f k outs) r:=hr
  rw [← hd]
  exact Ev.bnd hr' (Ev.ret _)
 have hall:Ev (fun k=>(slices_ContainsFunc_int_int_at76.f k outs).bind fun t=>some (!t)) (outs.all outOk):=Ev.eq (Ev.bnd hc (Ev.ret _)) (by simp)
 have hj1:Ev (fun k=>impl_CliOk.j0 k true name u d tos body state at_ outs) false:=Ev.step (fun k=>by rw [impl_CliOk.j0]) (Ev.pos rfl (Ev.ret _))
 have hj0:Ev (fun k=>impl_CliOk.j0 k false name u d tos body state at_ outs) (inB at_ 0 tos.length && (cliFin state at_ && (decide ((outs.length:Int)=(tos.length:Int)) && outs.all outOk))):=by
  refine Ev.step (fun k=>by rw [impl_CliOk.j0]) (Ev.neg (by simp) (Ev.and (hin _ _ _) ?_))
  unfold cliFin
  by_cases h:state=3
  ·rw [if_pos h]
   exact Ev.pos h (Ev.ifand (Ev.ifand hall))
  ·rw [if_neg h,Bool.true_and]
   exact Ev.neg h (Ev.ifand hall)
 have heq:cliL name u d tos body state at_ outs=(domL (LL name) && (mailL u d tos body && (inB state 0 7 && (inB at_ 0 tos.length && (cliFin state at_ && (decide ((outs.length:Int)=(tos.length:Int)) && outs.all outOk)))))):=by
  unfold cliL
  generalize domL (LL name)=a
  generalize mailL u d tos body=b
  generalize inB state 0 7=c
  generalize inB at_ 0 tos.length=e
  generalize cliFin state at_=f
  generalize decide ((outs.length:Int)=(tos.length:Int))=g
  generalize outs.all outOk=h
  cases a<;>cases b<;>cases c<;>cases e<;>cases f<;>cases g<;>cases h<;>rfl
 rw [heq]
 unfold impl_CliOk.f
 refine Ev.bnd (implDomainOk_ev name (by omega)) ?_
 by_cases h1:domL (LL name)=true
 ·refine Ev.pos h1 (Ev.bnd (implMailOk_ev hB) ?_)
  rw [h1,Bool.true_and]
  by_cases h2:mailL u d tos body=true
  ·refine Ev.pos h2 (Ev.bnd (hin _ _ _) ?_)
   rw [h2,Bool.true_and]
   by_cases h3:inB state 0 7=true
   ·rw [h3,Bool.true_and]
    exact hj0
   ·rw [Bool.not_eq_true] at h3
    rw [h3,Bool.false_and]
    exact hj1
  ·rw [Bool.not_eq_true] at h2
   refine Ev.neg (by rw [h2];simp) ?_
   rw [h2,Bool.false_and]
   exact hj1
 ·rw [Bool.not_eq_true] at h1
  refine Ev.neg (by rw [h1];simp) ?_
  rw [h1,Bool.false_and]
  exact hj1
end
end Go.Proofs.YthkibaldmjfmmaaDoor.Q
namespace Go.Proofs.YthkibaldmjfmmaaDoor.Q
open Go.RowKit Go.Proofs.YthkibaldmjfmmaaDoorW.PrintWords Go.Proofs.YthkibaldmjfmmaaDoorW.PrintLast Go.Proofs.YthkibaldmjfmmaaDoorW.PrintMore
set_option linter.unusedVariables false
set_option linter.unusedSimpArgs false
theorem xor_nonneg (x y:Int) (hx:0≤x) (hx1:x < 1125899906842624) (hy:0≤y) (hy1:y < 1125899906842624) :
 0≤Go.bits .xor .i64 x y∧Go.bits .xor .i64 x y < 1125899906842624:=by
 obtain ⟨a,rfl⟩:=Int.eq_ofNat_of_zero_le hx
 obtain ⟨b,rfl⟩:=Int.eq_ofNat_of_zero_le hy
 have ha:a < 2 ^ 50:=by omega
 have hb:b < 2 ^ 50:=by omega
 have hp:2 ^ 50≤2 ^ IntKind.i64.bits:=Nat.pow_le_pow_right (by decide) (by decide)
 have ha':a % 2 ^ IntKind.i64.bits=a:=Nat.mod_eq_of_lt (Nat.lt_of_lt_of_le ha hp)
 have hb':b % 2 ^ IntKind.i64.bits=b:=Nat.mod_eq_of_lt (Nat.lt_of_lt_of_le hb hp)
 have hx:=Nat.xor_lt_two_pow ha hb
 have e:Go.bits .xor .i64 (a:Int) (b:Int)=((a ^^^ b:Nat):Int):=by
  simp only [bits,BitVec.ofInt_natCast,BitVec.toNat_xor,BitVec.toNat_ofNat,ha',hb']
  rw [IntKind.wrap_i64]
  omega
 rw [e]
 omega
theorem rd_byte {b:List Int} (hb:∀ x ∈ b,0≤x∧x≤255) (i:Int):0≤rd b i∧rd b i≤255:=by
 unfold rd
 by_cases h:i.toNat < b.length
 ·have:=hb _ (List.getElem_mem h)
  simpa [List.getD_eq_getElem?_getD,h] using this
 ·simp [List.getD_eq_getElem?_getD,h]
theorem tm {x n:Int} (hx:0≤x) (hn:1≤n):0≤Int.tmod x n∧Int.tmod x n < n :=
 ⟨Int.tmod_nonneg _ hx,Int.tmod_lt_of_pos _ (by omega)⟩
theorem pick_ok (b:List Int) (hb:∀ x ∈ b,0≤x∧x≤255) (p n:Int) (k:Nat) (h0:0≤p) (h1:p≤1099511627776) (hn:n≤4294967296) (hl:b.length≤4294967296) :
 ∃ r,spec_l20Rd_pick.f (k+1) b p n=some (r,p+1)∧0≤r∧(1≤n→r < n)∧(n < 1→r=0):=by
 unfold spec_l20Rd_pick.f
 have e1:wrap64 (p+1)=p+1:=w64 (by omega) (by omega)
 rw [e1]
 by_cases hn1:n < 1
 ·rw [if_pos hn1]
  simp only [spec_l20Rd_pick.j0]
  exact ⟨0,by simp,by omega,by omega,fun _=>rfl⟩
 ·rw [if_neg hn1]
  by_cases hb0:b.length=0
  ·have:((b.length:Int)==0)=true:=by simp [hb0]
   rw [this]
   simp only [spec_l20Rd_pick.j0]
   exact ⟨0,by simp,by omega,by omega,fun _=>rfl⟩
  ·have hf:((b.length:Int)==0)=false:=by simpa using hb0
   rw [hf]
   simp only [spec_l20Rd_pick.j0]
   have e2:wrap64 (p+1 - 1)=p:=by rw [w64 (by omega) (by omega)];omega
   simp only [e2]
   rw [if_neg (by simp)]
   by_cases hp:p < (b.length:Int)
   ·rw [if_pos hp,if_pos h0,if_neg (by omega)]
    have hr:=rd_byte hb p
    rw [w64 (by omega) (by omega)]
    have ht:=tm hr.1 (show 1≤n by omega)
    exact ⟨_,rfl,ht.1,fun _=>ht.2,fun h=>absurd h hn1⟩
   ·rw [if_neg hp,if_neg (by omega)]
    have t1:=tm h0 (show (1:Int)≤(b.length:Int) by omega)
    rw [if_pos t1.1,if_pos t1.2]
    have e3:wrap64 (wrap64 (p * 7)+3)=p * 7+3:=by rw [w64 (x:=p * 7) (by omega) (by omega),w64 (by omega) (by omega)]
    rw [e3]
    have t2:=tm (show 0≤p * 7+3 by omega) (show (1:Int)≤(b.length:Int) by omega)
    rw [if_pos t2.1,if_pos t2.2,if_neg (by omega)]
    have ra:=rd_byte hb (Int.tmod p (b.length:Int))
    have rb:=rd_byte hb (Int.tmod (p * 7+3) (b.length:Int))
    generalize rd b (Int.tmod p (b.length:Int))=a at *
    generalize rd b (Int.tmod (p * 7+3) (b.length:Int))=c at *
    have hq0:0≤Int.tdiv p (b.length:Int):=Int.tdiv_nonneg h0 (by omega)
    have hq1:Int.tdiv p (b.length:Int)≤p:=Int.tdiv_le_self _ h0
    generalize Int.tdiv p (b.length:Int)=q at *
    have e4:wrap64 (wrap64 (wrap64 (wrap64 (wrap64 a * 131)+wrap64 (wrap64 c * 1117))+wrap64 (p * 29))+wrap64 (wrap64 q * 53))=a * 131+c * 1117+p * 29+q * 53:=by
     rw [w64 (x:=a) (by omega) (by omega),w64 (x:=c) (by omega) (by omega),w64 (x:=q) (by omega) (by omega),w64 (x:=a * 131) (by omega) (by omega),w64 (x:=c * 1117) (by omega) (by omega),w64 (x:=p * 29) (by omega) (by omega),w64 (x:=q * 53) (by omega) (by omega),w64 (x:=a * 131+c * 1117) (by omega) (by omega),w64 (x:=a * 131+c * 1117+p * 29) (by omega) (by omega),w64 (by omega) (by omega)]
    rw [e4]
    have hx0:0≤a * 131+c * 1117+p * 29+q * 53:=by omega
    have hx1:a * 131+c * 1117+p * 29+q * 53 < 1125899906842624:=by omega
    generalize a * 131+c * 1117+p * 29+q * 53=x at *
    have hd0:0≤Int.tdiv x 64:=Int.tdiv_nonneg hx0 (by omega)
    have hd1:Int.tdiv x 64≤x:=Int.tdiv_le_self _ hx0
    rw [w64 (x:=Int.tdiv x 64) (by omega) (by omega)]
    have hz:=xor_nonneg x (Int.tdiv x 64) hx0 hx1 hd0 (by omega)
    have ht:=tm hz.1 (show 1≤n by omega)
    exact ⟨_,rfl,ht.1,fun _=>ht.2,fun h=>absurd h hn1⟩
theorem open_ok (l:List Int) (hb:∀ x ∈ l,(Lit.int .u8 x).wf=true):∃ b,spec_l20Open.f l=some (b,0)∧(∀ x ∈ b,0≤x∧x≤255)∧b.length≤2000:=by
 have hb':∀ x ∈ l,0≤x∧x≤255:=by
  intro x hx
  have:=hb x hx
  exact wf_u8 this
 unfold spec_l20Open.f
 by_cases h:(l.length:Int) > 2000
 ·rw [if_pos h,if_pos (by omega)]
  exact ⟨_,rfl,fun x hx=>hb' x (List.mem_of_mem_take hx),by rw [List.length_take];omega⟩
 ·rw [if_neg h]
  exact ⟨_,rfl,hb',by omega⟩
def Buf (b:List Int):Prop:=(∀ x ∈ b,0≤x∧x≤255)∧b.length≤2000
theorem pick_same (b:List Int) (p n:Int) (k:Nat):spec_l20Rd_pick.f (k+1) b p n=spec_l20Rd_pick.f 1 b p n:=rfl
def Dr {α:Type} (n:Int) (p:Int) (f:Nat→Option (α × Int)) (P:α→Prop):Prop:=∃ v p',Ev f (v,p')∧p≤p'∧p'≤p+n∧P v
theorem pick_dr {b:List Int} (hb:Buf b) {p:Int} (n:Int) (h0:0≤p) (h1:p≤1000000000) (hn:n≤4294967296):Dr 1 p (fun k=>spec_l20Rd_pick.f k b p n) (fun r=>0≤r∧(1≤n→r < n)):=by
 obtain ⟨r,hr,hr0,hr1,_⟩:=pick_ok b hb.1 p n 0 h0 (by omega) hn (by have:=hb.2;omega)
 refine ⟨r,p+1,⟨1,fun k hk=>?_⟩,by omega,by omega,hr0,hr1⟩
 obtain ⟨m,rfl⟩:∃ m,k=m+1:=⟨k - 1,by omega⟩
 show spec_l20Rd_pick.f (m+1) b p n=_
 rw [pick_same]
 exact hr
theorem one_dr {b:List Int} (hb:Buf b) {p:Int} (l:List Int) (hl:l≠[]) (hm:l.length≤4294967296) (h0:0≤p) (h1:p≤1000000000):Dr 1 p (fun k=>spec_l20Rd_one.f k b p l) (fun r=>r ∈ l):=by
 obtain ⟨r,p',hr,hp,hp',hr0,hr1⟩:=pick_dr hb (l.length:Int) h0 h1 (by omega)
 have hpos:=List.length_pos_iff.2 hl
 have hr1:=hr1 (by omega)
 refine ⟨rd l r,p',?_,hp,hp',?_⟩
 ·unfold spec_l20Rd_one.f
  exact Ev.bnd hr (Ev.pos hr0 (Ev.pos hr1 (Ev.ret _)))
 ·unfold rd
  rw [List.getD_eq_getElem?_getD,List.getElem?_eq_getElem (by omega)]
  exact List.getElem_mem _
theorem of_dr {b:List Int} (hb:Buf b) {p:Int} (l:List ByteArray) (hl:l≠[]) (hm:l.length≤4294967296) (h0:0≤p) (h1:p≤1000000000):Dr 1 p (fun k=>spec_l20Rd_of.f k b p l) (fun r=>r ∈ l):=by
 obtain ⟨r,p',hr,hp,hp',hr0,hr1⟩:=pick_dr hb (l.length:Int) h0 h1 (by omega)
 have hpos:=List.length_pos_iff.2 hl
 have hr1:=hr1 (by omega)
 refine ⟨rdOf ByteArray.empty l r,p',?_,hp,hp',?_⟩
 ·unfold spec_l20Rd_of.f
  exact Ev.bnd hr (Ev.pos hr0 (Ev.pos hr1 (Ev.ret _)))
 ·unfold rdOf
  rw [List.getD_eq_getElem?_getD,List.getElem?_eq_getElem (by omega)]
  exact List.getElem_mem _
theorem of_all {l:List ByteArray} {P:ByteArray→Prop} (h:∀ s ∈ l,P s) {n p:Int} {f:Nat→Option (ByteArray × Int)} (d:Dr n p f (fun r=>r ∈ l)):Dr n p f P:=by
 obtain ⟨v,p',e,a,c,m⟩:=d
 exact ⟨v,p',e,a,c,h v m⟩
theorem line_dr {b:List Int} (hb:Buf b) {p:Int} (h0:0≤p) (h1:p≤1000000000):Dr 1 p (fun k=>spec_l20Line.f k b p) (fun r=>r.size≤40):=by
 unfold spec_l20Line.f
 obtain ⟨v,p',e,a,c,m⟩:=of_all (P:=fun s=>s.size≤40) (by intro s hs;simp only [List.mem_cons,List.not_mem_nil,or_false] at hs;rcases hs with rfl|rfl|rfl|rfl|rfl|rfl|rfl|rfl|rfl|rfl|rfl|rfl<;>decide) (of_dr hb [(⟨#[104,101,108,108,111]⟩:ByteArray),(⟨#[]⟩:ByteArray),(⟨#[46]⟩:ByteArray),(⟨#[46,46]⟩:ByteArray),(⟨#[46,100,111,116]⟩:ByteArray),(⟨#[97,32,108,111,110,103,101,114,32,108,105,110,101,32,111,102,32,116,101,120,116]⟩:ByteArray),(⟨#[72,111,112,58,32,111,110,101,46,111,114,103]⟩:ByteArray),(⟨#[72,111,112,58,32]⟩:ByteArray),(⟨#[73,100,58,32,55]⟩:ByteArray),(⟨#[110,111,116,32,100,101,108,105,118,101,114,101,100,58]⟩:ByteArray),(⟨#[60,97,64,111,110,101,46,111,114,103,62]⟩:ByteArray),(⟨#[108,105,110,101,32,116,104,97,116,32,105,115,32,101,120,97,99,116,108,121,32,102,111,114,116,121,32,98,121,116,101,115,32,108,111,110,103,46,46,33]⟩:ByteArray)] (by simp) (by simp) h0 h1)
 exact ⟨v,p',Ev.bnd e (Ev.ret _),a,c,m⟩
theorem body_loop {b:List Int} (hb:Buf b):∀ (d:Nat) (p:Int) (x:List ByteArray),0≤p→p+d≤1000000000→x.length+d≤1000→(∀ s ∈ x,s.size≤40) →
 Dr d p (fun k=>spec_l20Body.l0 k x (d:Int) b p) (fun r=>r.length=x.length+d∧∀ s ∈ r,s.size≤40):=by
 intro d
 induction d with
 | zero =>
  intro p x h0 h1 hx hs
  exact ⟨x,p,Ev.step (fun k=>by rw [spec_l20Body.l0]) (Ev.neg (by omega) (Ev.ret _)),by omega,by omega,by omega,hs⟩
 | succ d ih =>
  intro p x h0 h1 hx hs
  obtain ⟨v,p',e,a,c,m⟩:=line_dr hb h0 (show p≤1000000000 by omega)
  obtain ⟨r,q,e2,a2,c2,m2,m3⟩:=ih p' (x++[v]) (by omega) (by omega) (by simp;omega) (fun s hs'=>by
   rcases List.mem_append.1 hs' with h|h
   ·exact hs s h
   ·rw [List.mem_singleton.1 h];exact m)
  refine ⟨r,q,?_,by omega,by omega,by rw [m2];simp;omega,m3⟩
  refine Ev.step (fun k=>by rw [spec_l20Body.l0]) ?_
  refine Ev.pos (by omega) ?_
  refine Ev.bnd e ?_
  refine Ev.pos (by omega) ?_
  rw [show wrap64 (((d+1:Nat):Int) - 1)=(d:Int) by rw [w64 (by omega) (by omega)];omega]
  exact e2
theorem body_dr {b:List Int} (hb:Buf b) {p:Int} (n:Int) (hn:0≤n) (hn2:n≤100) (h0:0≤p) (h1:p≤1000000):Dr (1+n) p (fun k=>spec_l20Body.f k b p n) (fun r=>(r.length:Int)≤n∧∀ s ∈ r,s.size≤40):=by
 unfold spec_l20Body.f
 rw [w64 (by omega) (by omega)]
 obtain ⟨v,p',e,a,c,m0,m1⟩:=pick_dr hb (p:=p) (n+1) h0 (by omega) (by omega)
 have m1:=m1 (by omega)
 obtain ⟨d,rfl⟩:=int_of_nat m0
 obtain ⟨r,q,e2,a2,c2,m2,m3⟩:=body_loop hb d p' [] (by omega) (by omega) (by simp;omega) (by simp)
 exact ⟨r,q,Ev.bnd e e2,by omega,by omega,by rw [m2];simp;omega,m3⟩
theorem anyBody_loop (b:List Int) (p:Int):∀ (d:Nat) (x:List ByteArray),x.length+d=13→(∀ s ∈ x,s.size≤41)→∃ r,Ev (fun k=>spec_l20AnyBody.l0 k x b p) (r,p)∧r.length≤13∧∀ s ∈ r,s.size≤41:=by
 intro d
 induction d with
 | zero =>
  intro x hx hs
  exact ⟨x,Ev.step (fun k=>by rw [spec_l20AnyBody.l0]) (Ev.neg (by omega) (Ev.ret _)),by omega,hs⟩
 | succ d ih =>
  intro x hx hs
  obtain ⟨r,e,h1,h2⟩:=ih (x++[⟨#[120]⟩]) (by simp;omega) (fun s hs'=>by
   rcases List.mem_append.1 hs' with h|h
   ·exact hs s h
   ·rw [List.mem_singleton.1 h];decide)
  exact ⟨r,Ev.step (fun k=>by rw [spec_l20AnyBody.l0]) (Ev.pos (by omega) (Ev.pos (by omega) e)),h1,h2⟩
theorem anyBody_dr {b:List Int} (hb:Buf b) {p:Int} (h0:0≤p) (h1:p≤100000):Dr 1000 p (fun k=>spec_l20AnyBody.f k b p) (fun r=>r.length≤13∧∀ s ∈ r,s.size≤41):=by
 unfold spec_l20AnyBody.f
 obtain ⟨n,p1,e1,a1,c1,m1⟩:=one_dr hb (p:=p) [0,3,6,12] (by simp) (by simp) h0 (by omega)
 have hn:0≤n∧n≤12:=by
  simp only [List.mem_cons,List.not_mem_nil,or_false] at m1
  omega
 obtain ⟨x,p2,e2,a2,c2,m2,m3⟩:=body_dr hb (p:=p1) n hn.1 (by omega) (by omega) (by omega)
 obtain ⟨t,p3,e3,a3,c3,m4,m5⟩:=pick_dr hb (p:=p2) 14 (by omega) (by omega) (by omega)
 by_cases h:t=0
 ·obtain ⟨v,p4,e4,a4,c4,m6⟩:=of_all (P:=fun s=>s.size≤41) (by intro s hs;simp only [List.mem_cons,List.not_mem_nil,or_false] at hs;rcases hs with rfl|rfl|rfl|rfl<;>decide) (of_dr hb (p:=p3) [(⟨#[97,13]⟩:ByteArray),(⟨#[97,10,98]⟩:ByteArray),(⟨#[127]⟩:ByteArray),(⟨#[97,32,108,105,110,101,32,116,104,97,116,32,105,115,32,111,110,101,32,98,121,116,101,32,108,111,110,103,101,114,32,116,104,97,110,32,102,111,114,116,121]⟩:ByteArray)] (by simp) (by simp) (by omega) (by omega))
  refine ⟨x++[v],p4,?_,by omega,by omega,by simp;omega,fun s hs=>?_⟩
  ·exact Ev.bnd e1 (Ev.bnd e2 (Ev.bnd e3 (Ev.pos h (Ev.bnd e4 (Ev.pos (by show x.length < _;omega) (Ev.ret _))))))
  ·rcases List.mem_append.1 hs with h|h
   ·have:=m3 s h;omega
   ·rw [List.mem_singleton.1 h];exact m6
 ·by_cases h':t=1
  ·obtain ⟨r,e4,q1,q2⟩:=anyBody_loop b p3 (13 - x.length) x (by omega) (fun s hs=>by have:=m3 s hs;omega)
   exact ⟨r,p3,Ev.bnd e1 (Ev.bnd e2 (Ev.bnd e3 (Ev.neg h (Ev.pos h' e4)))),by omega,by omega,q1,q2⟩
  ·exact ⟨x,p3,Ev.bnd e1 (Ev.bnd e2 (Ev.bnd e3 (Ev.neg h (Ev.neg h' (Ev.ret _))))),by omega,by omega,by omega,fun s hs=>by have:=m3 s hs;omega⟩
end Go.Proofs.YthkibaldmjfmmaaDoor.Q
namespace Go.Proofs.YthkibaldmjfmmaaDoor.Q
open Go.RowKit Go.Proofs.YthkibaldmjfmmaaDoorW.PrintWords Go.Proofs.YthkibaldmjfmmaaDoorW.PrintLast Go.Proofs.YthkibaldmjfmmaaDoorW.PrintMore
set_option linter.unusedVariables false
theorem sizes_of {l:List ByteArray} {n:Nat} (h:l.all (fun s=>decide (s.size≤n))=true):∀ s ∈ l,s.size≤n:=fun s hs=>by
 rw [List.all_eq_true] at h
 exact of_decide_eq_true (h s hs)
theorem domain_dr {b:List Int} (hb:Buf b) {p:Int} (h0:0≤p) (h1:p≤1000000):Dr 1 p (fun k=>spec_l20Domain.f k b p) (fun r=>r.size≤9):=by
 unfold spec_l20Domain.f
 obtain ⟨v,p',e,a,c,m⟩:=of_all (P:=fun s=>s.size≤9) (sizes_of (by decide)) (of_dr hb [(⟨#[111,110,101,46,111,114,103]⟩:ByteArray),(⟨#[116,119,111,46,111,114,103]⟩:ByteArray),(⟨#[104,117,98,46,110,101,116]⟩:ByteArray),(⟨#[120,46,99,111,109]⟩:ByteArray),(⟨#[102,97,114,46,99,111,109]⟩:ByteArray),(⟨#[111,116,104,101,114,46,99,111,109]⟩:ByteArray),(⟨#[97,46,111,110,101,46,111,114,103]⟩:ByteArray)] (by simp) (by simp) h0 (by omega))
 exact ⟨v,p',Ev.bnd e (Ev.ret _),a,c,m⟩
theorem addr_dr {b:List Int} (hb:Buf b) {p:Int} (h0:0≤p) (h1:p≤100000):∃ u d p',Ev (fun k=>spec_l20Addr.f k b p) (u,d,p')∧p≤p'∧p'≤p+2∧u.size≤11∧d.size≤9:=by
 unfold spec_l20Addr.f
 obtain ⟨v,p1,e,a,c,m⟩:=of_all (P:=fun s=>s.size≤11) (sizes_of (by decide)) (of_dr hb (p:=p) [(⟨#[97]⟩:ByteArray),(⟨#[98]⟩:ByteArray),(⟨#[97,110,110]⟩:ByteArray),(⟨#[98,111,98,55]⟩:ByteArray)] (by simp) (by simp) h0 (by omega))
 obtain ⟨w,p2,e2,a2,c2,m2⟩:=domain_dr hb (p:=p1) (by omega) (by omega)
 exact ⟨v,w,p2,Ev.bnd e (Ev.bnd e2 (Ev.ret _)),by omega,by omega,m,m2⟩
theorem anyAddr_dr {b:List Int} (hb:Buf b) {p:Int} (h0:0≤p) (h1:p≤100000):∃ u d p',Ev (fun k=>spec_l20AnyAddr.f k b p) (u,d,p')∧p≤p'∧p'≤p+4∧u.size≤11∧d.size≤9:=by
 unfold spec_l20AnyAddr.f
 obtain ⟨u,d,p1,e1,a1,c1,m1,n1⟩:=addr_dr hb h0 h1
 obtain ⟨t,p2,e2,a2,c2,_,_⟩:=pick_dr hb (p:=p1) 10 (by omega) (by omega) (by omega)
 by_cases h:t=0
 ·obtain ⟨v,p3,e3,a3,c3,m3⟩:=of_all (P:=fun s=>s.size≤11) (sizes_of (by decide)) (of_dr hb (p:=p2) [(⟨#[]⟩:ByteArray),(⟨#[65]⟩:ByteArray),(⟨#[116,111,111,108,111,110,103,110,97,109,101]⟩:ByteArray),(⟨#[97,64,98]⟩:ByteArray)] (by simp) (by simp) (by omega) (by omega))
  exact ⟨v,d,p3,Ev.bnd e1 (Ev.bnd e2 (Ev.pos h (Ev.bnd e3 (Ev.ret _)))),by omega,by omega,m3,n1⟩
 ·by_cases h':t=1
  ·obtain ⟨v,p3,e3,a3,c3,m3⟩:=of_all (P:=fun s=>s.size≤9) (sizes_of (by decide)) (of_dr hb (p:=p2) [(⟨#[]⟩:ByteArray),(⟨#[97,46,46,98]⟩:ByteArray),(⟨#[46,97]⟩:ByteArray),(⟨#[97,46,98,46,99,46,100]⟩:ByteArray),(⟨#[85,112,46,111,114,103]⟩:ByteArray)] (by simp) (by simp) (by omega) (by omega))
   exact ⟨u,v,p3,Ev.bnd e1 (Ev.bnd e2 (Ev.neg h (Ev.pos h' (Ev.bnd e3 (Ev.ret _))))),by omega,by omega,m1,m3⟩
  ·by_cases h2:t=2
   ·exact ⟨_,_,p2,Ev.bnd e1 (Ev.bnd e2 (Ev.neg h (Ev.neg h' (Ev.pos h2 (Ev.ret _))))),by omega,by omega,by decide,by decide⟩
   ·exact ⟨_,_,p2,Ev.bnd e1 (Ev.bnd e2 (Ev.neg h (Ev.neg h' (Ev.neg h2 (Ev.ret _))))),by omega,by omega,m1,n1⟩
end Go.Proofs.YthkibaldmjfmmaaDoor.Q
namespace Go.Proofs.YthkibaldmjfmmaaDoor.Q
open Go.RowKit Go.Proofs.YthkibaldmjfmmaaDoorW.PrintWords Go.Proofs.YthkibaldmjfmmaaDoorW.PrintLast Go.Proofs.YthkibaldmjfmmaaDoorW.PrintMore
set_option linter.unusedVariables false
def Has {α:Type} (g:Nat→Option α) (P:α→Prop):Prop:=∃ v,Ev g v∧P v
section
variable {α β:Type} {g g':Nat→Option α} {P Q:α→Prop}
theorem Has.step (hg:∀ k,g (k+1)=g' k) (h:Has g' P):Has g P:=by
 obtain ⟨v,e,p⟩:=h
 exact ⟨v,Ev.step hg e,p⟩
theorem Has.pos {c:Prop} [Decidable c] (h:c) (e:Has g P):Has (fun k=>if c then g k else g' k) P:=by
 obtain ⟨v,e,p⟩:=e
 exact ⟨v,Ev.pos h e,p⟩
theorem Has.neg {c:Prop} [Decidable c] (h:¬ c) (e:Has g' P):Has (fun k=>if c then g k else g' k) P:=by
 obtain ⟨v,e,p⟩:=e
 exact ⟨v,Ev.neg h e,p⟩
theorem Has.bnd {h:Nat→Option β} {F:Nat→β→Option α} {a:β} (e:Ev h a) (k:Has (fun n=>F n a) P):Has (fun n=>(h n).bind (F n)) P:=by
 obtain ⟨v,e2,p⟩:=k
 exact ⟨v,Ev.bnd e e2,p⟩
theorem Has.ret {v:α} (h:P v):Has (fun _=>some v) P:=⟨v,Ev.ret v,h⟩
theorem Has.imp (h:Has g P) (hpq:∀ v,P v→Q v):Has g Q:=by
 obtain ⟨v,e,p⟩:=h
 exact ⟨v,e,hpq v p⟩
end
end Go.Proofs.YthkibaldmjfmmaaDoor.Q
namespace Go.Proofs.YthkibaldmjfmmaaDoor.Q
open Go.RowKit Go.Proofs.YthkibaldmjfmmaaDoorW.PrintWords Go.Proofs.YthkibaldmjfmmaaDoorW.PrintLast Go.Proofs.YthkibaldmjfmmaaDoorW.PrintMore
set_option linter.unusedVariables false
def MailD (u d:ByteArray) (tos:List IA) (body:List ByteArray):Prop:=u.size≤11∧d.size≤9∧(tos.length≤5∧∀ x ∈ tos,x.f0.size≤11∧x.f1.size≤9)∧body.length≤13∧∀ s ∈ body,s.size≤41
theorem MailD.b {u d:ByteArray} {tos:List IA} {body:List ByteArray} (h:MailD u d tos body):MailB u d tos body:=by
 obtain ⟨h0,h1,⟨h2,h3⟩,h4,h5⟩:=h
 exact ⟨by omega,by omega,⟨by omega,fun x hx=>by have:=h3 x hx;omega⟩,by omega,fun s hs=>by have:=h5 s hs;omega⟩
section
variable {b:List Int} (u d:ByteArray) (body:List ByteArray)
theorem mail_l1 (x4:Int) (p:Int) (tos:List IA) (u' d':ByteArray) (P:ByteArray × ByteArray × List IA × List ByteArray × Int→Prop) (ht:tos.length≤1000)
 (h0:Has (fun k=>spec_l20Mail.l0 k (wrap64 (x4 - 1)) b p u d tos body) P) (h1:Has (fun k=>spec_l20Mail.l0 k (wrap64 (x4 - 1)) b p u d (tos++[(⟨u',d'⟩:IA)]) body) P) :
 ∀ m i:Nat,i+m=tos.length→∀ q:Bool,Has (fun k=>spec_l20Mail.l1 k x4 q (i:Int) b p u d tos body u' d') P:=by
 intro m
 induction m with
 | zero =>
  intro i hi q
  refine Has.step (fun k=>by rw [spec_l20Mail.l1]) (Has.neg (by omega) ?_)
  by_cases hq:q=true
  ·exact Has.pos hq h0
  ·exact Has.neg hq (Has.pos (by omega) h1)
 | succ m ih =>
  intro i hi q
  refine Has.step (fun k=>by rw [spec_l20Mail.l1]) (Has.pos (by omega) ?_)
  rw [wsucc (by omega)]
  by_cases hq:q=true
  ·exact Has.pos hq (ih (i+1) (by omega) true)
  ·exact Has.neg hq (Has.pos (by omega) (ih (i+1) (by omega) _))
variable (hb:Buf b)
include hb
theorem mail_l0:∀ (n:Nat) (p:Int) (tos:List IA),0≤p→p+2 * n≤100000→tos.length+n≤4→(∀ x ∈ tos,x.f0.size≤11∧x.f1.size≤9) →
 Has (fun k=>spec_l20Mail.l0 k (n:Int) b p u d tos body) (fun v=>v.1=u∧v.2.1=d∧v.2.2.2.1=body∧(v.2.2.1.length≤4∧∀ x ∈ v.2.2.1,x.f0.size≤11∧x.f1.size≤9)∧p≤v.2.2.2.2∧v.2.2.2.2≤p+2 * n∧(1≤tos.length+n→1≤v.2.2.1.length)):=by
 intro n
 induction n with
 | zero =>
  intro p tos h0 h1 ht hts
  exact Has.step (fun k=>by rw [spec_l20Mail.l0]) (Has.neg (by omega) (Has.ret ⟨rfl,rfl,rfl,⟨by show tos.length≤4;omega,hts⟩,by show p≤p;omega,by show p≤p+2 * ((0:Nat):Int);omega,fun h=>by show 1≤tos.length;omega⟩))
 | succ n ih =>
  intro p tos h0 h1 ht hts
  obtain ⟨u',d',p2,e,a,c,m1,m2⟩:=addr_dr hb (p:=p) h0 (by omega)
  refine Has.step (fun k=>by rw [spec_l20Mail.l0]) (Has.pos (by omega) (Has.bnd e ?_))
  have hw:wrap64 (((n+1:Nat):Int) - 1)=(n:Int):=by rw [w64 (by omega) (by omega)];omega
  by_cases hn0:tos.length=0
  ·have e0:tos=[]:=List.eq_nil_of_length_eq_zero hn0
   subst e0
   refine Has.step (fun k=>by rw [spec_l20Mail.l1]) (Has.neg (by simp) (Has.neg (by simp) (Has.pos (by simp) ?_)))
   rw [hw]
   refine (ih p2 _ (by omega) (by omega) (by simp<;>omega) (fun x hx=>?_)).imp (fun v hv=>?_)
   ·rw [List.nil_append,List.mem_singleton] at hx
    rw [hx]
    exact ⟨m1,m2⟩
   ·obtain ⟨v1,v2,v3,v4,v5,v6,v7⟩:=hv
    exact ⟨v1,v2,v3,v4,by omega,by omega,fun _=>v7 (by simp<;>omega)⟩
  ·have hK:∀ tos2:List IA,tos2.length+n≤4→1≤tos2.length→(∀ x ∈ tos2,x.f0.size≤11∧x.f1.size≤9)→Has (fun k=>spec_l20Mail.l0 k (wrap64 (((n+1:Nat):Int) - 1)) b p2 u d tos2 body) (fun v=>v.1=u∧v.2.1=d∧v.2.2.2.1=body∧(v.2.2.1.length≤4∧∀ x ∈ v.2.2.1,x.f0.size≤11∧x.f1.size≤9)∧p≤v.2.2.2.2∧v.2.2.2.2≤p+2 * ((n+1:Nat):Int)∧(1≤tos.length+(n+1)→1≤v.2.2.1.length)):=by
    intro tos2 h2 h3 h4
    rw [hw]
    refine (ih p2 tos2 (by omega) (by omega) h2 h4).imp (fun v hv=>?_)
    obtain ⟨v1,v2,v3,v4,v5,v6,v7⟩:=hv
    exact ⟨v1,v2,v3,v4,by omega,by omega,fun _=>v7 (by omega)⟩
   refine mail_l1 u d body _ p2 tos u' d' _ (by omega) (hK tos (by omega) (by omega) hts) (hK _ (by simp<;>omega) (by simp) (fun x hx=>?_)) tos.length 0 (by omega) false
   rcases List.mem_append.1 hx with h|h
   ·exact hts x h
   ·rw [List.mem_singleton.1 h];exact ⟨m1,m2⟩
theorem mail_j0 (p:Int) (h0:0≤p) (h1:p≤10000):∃ tos p',Ev (fun k=>spec_l20Mail.j0 k b p u d body) (u,d,tos,body,p')∧p≤p'∧p'≤p+20∧(tos.length≤4∧∀ x ∈ tos,x.f0.size≤11∧x.f1.size≤9)∧1≤tos.length:=by
 obtain ⟨t,p2,e2,a2,c2,m0,m1⟩:=pick_dr hb (p:=p) 4 h0 (by omega) (by omega)
 have m1:=m1 (by omega)
 obtain ⟨n,rfl⟩:=int_of_nat m0
 have hw:wrap64 (1+(n:Int))=((n+1:Nat):Int):=by rw [w64 (by omega) (by omega)];omega
 obtain ⟨⟨u',d',tos,body',p3⟩,e3,v1,v2,v3,v4,v5,v6,v7⟩:=mail_l0 u d body hb (n+1) p2 [] (by omega) (by omega) (by simp<;>omega) (fun x hx=>by cases hx)
 simp only at v1 v2 v3 v4 v5 v6 v7
 subst v1 v2 v3
 refine ⟨tos,p3,?_,by omega,by omega,v4,v7 (by simp)⟩
 refine Ev.step (fun k=>by rw [spec_l20Mail.j0]) (Ev.bnd e2 ?_)
 show Ev (fun k=>spec_l20Mail.l0 k (wrap64 (1+(n:Int))) b p2 u' d' [] body') _
 rw [hw]
 exact e3
end
theorem mail_dr {b:List Int} (hb:Buf b) {p:Int} (h0:0≤p) (h1:p≤1000):∃ u d tos body p',Ev (fun k=>spec_l20Mail.f k b p) (u,d,tos,body,p')∧p≤p'∧p'≤p+100∧MailD u d tos body∧tos.length≤4∧1≤tos.length:=by
 obtain ⟨u,d,p1,e1,a1,c1,m1,m2⟩:=addr_dr hb (p:=p) h0 (by omega)
 obtain ⟨n,p2,e2,a2,c2,m3⟩:=one_dr hb (p:=p1) [1,4,9] (by simp) (by simp) (by omega) (by omega)
 have hn:1≤n∧n≤9:=by
  simp only [List.mem_cons,List.not_mem_nil,or_false] at m3
  omega
 obtain ⟨body,p3,e3,a3,c3,m4,m5⟩:=body_dr hb (p:=p2) n (by omega) (by omega) (by omega) (by omega)
 obtain ⟨t,p4,e4,a4,c4,_,_⟩:=pick_dr hb (p:=p3) 5 (by omega) (by omega) (by omega)
 have hbl:body.length≤13:=by omega
 have hbs:∀ s ∈ body,s.size≤41:=fun s hs=>by have:=m5 s hs;omega
 unfold spec_l20Mail.f
 by_cases h:t=0
 ·obtain ⟨tos,p5,e5,a5,c5,q1,q2⟩:=mail_j0 ⟨#[]⟩ ⟨#[]⟩ body hb p4 (by omega) (by omega)
  exact ⟨_,_,tos,body,p5,Ev.bnd e1 (Ev.bnd e2 (Ev.bnd e3 (Ev.bnd e4 (Ev.pos h e5)))),by omega,by omega,⟨Nat.zero_le _,Nat.zero_le _,⟨by omega,q1.2⟩,hbl,hbs⟩,q1.1,q2⟩
 ·obtain ⟨tos,p5,e5,a5,c5,q1,q2⟩:=mail_j0 u d body hb p4 (by omega) (by omega)
  exact ⟨_,_,tos,body,p5,Ev.bnd e1 (Ev.bnd e2 (Ev.bnd e3 (Ev.bnd e4 (Ev.neg h e5)))),by omega,by omega,⟨m1,m2,⟨by omega,q1.2⟩,hbl,hbs⟩,q1.1,q2⟩
theorem anyMail_dr {b:List Int} (hb:Buf b) {p:Int} (h0:0≤p) (h1:p≤1000):∃ u d tos body p',Ev (fun k=>spec_l20AnyMail.f k b p) (u,d,tos,body,p')∧p≤p'∧p'≤p+2000∧MailD u d tos body:=by
 obtain ⟨u,d,tos,body,p1,e1,a1,c1,hm,ht4,ht1⟩:=mail_dr hb h0 h1
 obtain ⟨t,p2,e2,a2,c2,_,_⟩:=pick_dr hb (p:=p1) 12 (by omega) (by omega) (by omega)
 obtain ⟨m1,m2,⟨m3,m4⟩,m5,m6⟩:=hm
 unfold spec_l20AnyMail.f
 by_cases q0:t=0
 ·obtain ⟨y,p3,e3,a3,c3,n1,n2⟩:=anyBody_dr hb (p:=p2) (by omega) (by omega)
  exact ⟨u,d,tos,y,p3,Ev.bnd e1 (Ev.bnd e2 (Ev.pos q0 (Ev.bnd e3 (Ev.ret _)))),by omega,by omega,m1,m2,⟨m3,m4⟩,n1,n2⟩
 by_cases q1:t=1
 ·have hr:=rdIA tos 0 (by omega)
  have hr:zq26 tos 0=tos[0]:=hr
  have hmem:=m4 tos[0] (List.getElem_mem (by omega))
  refine ⟨u,d,tos++[(⟨tos[0].f0,tos[0].f1⟩:IA)],body,p2,Ev.bnd e1 (Ev.bnd e2 (Ev.neg q0 (Ev.pos q1 (Ev.pos (by show (0:Int) < (tos.length:Int);omega) (Ev.pos (by show tos.length < 4398046511104;omega) (Ev.eq (Ev.ret _) ?_)))))),by omega,by omega,m1,m2,⟨by simp;omega,fun x hx=>?_⟩,m5,m6⟩
  ·simp only [hr]
  ·rcases List.mem_append.1 hx with h|h
   ·exact m4 x h
   ·rw [List.mem_singleton.1 h];exact hmem
 by_cases q2:t=2
 ·exact ⟨u,d,[],body,p2,Ev.bnd e1 (Ev.bnd e2 (Ev.neg q0 (Ev.neg q1 (Ev.pos q2 (Ev.ret _))))),by omega,by omega,m1,m2,⟨Nat.zero_le _,fun x hx=>by cases hx⟩,m5,m6⟩
 by_cases q3:t=3
 ·obtain ⟨u',d',p3,e3,a3,c3,n1,n2⟩:=anyAddr_dr hb (p:=p2) (by omega) (by omega)
  exact ⟨u',d',tos,body,p3,Ev.bnd e1 (Ev.bnd e2 (Ev.neg q0 (Ev.neg q1 (Ev.neg q2 (Ev.pos q3 (Ev.bnd e3 (Ev.ret _))))))),by omega,by omega,n1,n2,⟨m3,m4⟩,m5,m6⟩
 ·exact ⟨u,d,tos,body,p2,Ev.bnd e1 (Ev.bnd e2 (Ev.neg q0 (Ev.neg q1 (Ev.neg q2 (Ev.neg q3 (Ev.ret _)))))),by omega,by omega,m1,m2,⟨m3,m4⟩,m5,m6⟩
end Go.Proofs.YthkibaldmjfmmaaDoor.Q
namespace Go.Proofs.YthkibaldmjfmmaaDoor.Q
open Go.RowKit Go.Proofs.YthkibaldmjfmmaaDoorW.PrintWords Go.Proofs.YthkibaldmjfmmaaDoorW.PrintLast Go.Proofs.YthkibaldmjfmmaaDoorW.PrintMore
set_option linter.unusedVariables false
theorem saTexts_loop (a b:List ByteArray) (hl:a.length=b.length) (hm:a.length≤1099511627776):∀ d i:Nat,i+d=a.length→Ev (fun k=>laws_saTexts.l0 k a b (i:Int)) (decide (a.drop i=b.drop i)):=by
 intro d
 induction d with
 | zero =>
  intro i hi
  refine Ev.step (fun k=>by rw [laws_saTexts.l0]) ?_
  refine Ev.neg (by omega) (Ev.eq (Ev.ret _) ?_)
  rw [List.drop_of_length_le (by omega),List.drop_of_length_le (by omega)]
  simp
 | succ d ih =>
  intro i hi
  refine Ev.step (fun k=>by rw [laws_saTexts.l0]) ?_
  refine Ev.pos (by omega) (Ev.pos (by omega) (Ev.pos (by omega) ?_))
  rw [wsucc (by omega)]
  have e1:=drop_rd a i (by omega)
  have e2:=drop_rd b i (by omega)
  by_cases h:rdOf ByteArray.empty a (i:Int)=rdOf ByteArray.empty b (i:Int)
  ·refine Ev.pos (toList_eq.2 h) (Ev.eq (ih (i+1) (by omega)) ?_)
   rw [e1,e2,h]
   simp
  ·refine Ev.neg (fun e=>h (toList_eq.1 e)) (Ev.eq (Ev.ret _) ?_)
   rw [e1,e2]
   simp [h]
theorem saTexts_ev (a b:List ByteArray) (hm:a.length≤1099511627776):Ev (fun k=>laws_saTexts.f k a b) (decide (a=b)):=by
 unfold laws_saTexts.f
 by_cases h:a.length=b.length
 ·exact Ev.pos (by omega) (saTexts_loop a b h hm a.length 0 (by omega))
 ·refine Ev.neg (by omega) (Ev.eq (Ev.ret _) ?_)
  symm
  rw [decide_eq_false_iff_not]
  exact fun e=>h (by rw [e])
end Go.Proofs.YthkibaldmjfmmaaDoor.Q
namespace Go.Proofs.YthkibaldmjfmmaaDoor.Q
open Go.RowKit Go.Proofs.YthkibaldmjfmmaaDoorW.PrintWords Go.Proofs.YthkibaldmjfmmaaDoorW.PrintLast Go.Proofs.YthkibaldmjfmmaaDoorW.PrintMore
set_option linter.unusedVariables false
set_option linter.unusedSimpArgs false
theorem saAddrs_loop (l:List IA) (hm:l.length≤1099511627776):∀ d i:Nat,i+d=l.length→Ev (fun k=>laws_saAddrs.l0 k l l (i:Int)) true:=by
 intro d
 induction d with
 | zero =>
  intro i hi
  refine Ev.step (fun k=>by rw [laws_saAddrs.l0]) ?_
  exact Ev.neg (by omega) (Ev.ret _)
 | succ d ih =>
  intro i hi
  refine Ev.step (fun k=>by rw [laws_saAddrs.l0]) ?_
  refine Ev.pos (by omega) (Ev.pos (by omega) (Ev.pos (by omega) (Ev.neg (by simp) ?_)))
  rw [wsucc (by omega)]
  exact ih (i+1) (by omega)
theorem saMail_refl {u d:ByteArray} {tos:List IA} {body:List ByteArray} (h:MailB u d tos body):Ev (fun k=>laws_saMail.f k u d tos body u d tos body) true:=by
 unfold laws_saMail.f
 obtain ⟨_,_,⟨h2,_⟩,h4,_⟩:=h
 have e2:Ev (fun k=>laws_saAddrs.f k tos tos) true:=by
  unfold laws_saAddrs.f
  exact Ev.pos rfl (saAddrs_loop tos (by omega) tos.length 0 (by omega))
 exact Ev.pos (by simp) (Ev.bnd e2 (Ev.pos rfl (Ev.bnd (saTexts_ev body body (by omega)) (Ev.eq (Ev.ret _) (by simp)))))
end Go.Proofs.YthkibaldmjfmmaaDoor.Q
namespace Go.Proofs.YthkibaldmjfmmaaDoor.Q
open Go.RowKit Go.Proofs.YthkibaldmjfmmaaDoorW.PrintWords Go.Proofs.YthkibaldmjfmmaaDoorW.PrintLast Go.Proofs.YthkibaldmjfmmaaDoorW.PrintMore
set_option linter.unusedVariables false
abbrev CliV:=ByteArray × ByteArray × ByteArray × List IA × List ByteArray × Int × Int × List Int
def zCli:CliV:=(⟨#[]⟩,⟨#[]⟩,⟨#[]⟩,[],[],0,0,[])
def cliNew (name u d:ByteArray) (tos:List IA) (body:List ByteArray):CliV :=
 if (domL (LL name) && mailL u d tos body)=true then (name,u,d,tos,body,0,0,List.replicate tos.length 0) else zCli
theorem cliNew_pos {name u d:ByteArray} {tos:List IA} {body:List ByteArray} (h:(domL (LL name) && mailL u d tos body)=true):cliNew name u d tos body=(name,u,d,tos,body,0,0,List.replicate tos.length 0):=if_pos h
theorem cliNew_neg {name u d:ByteArray} {tos:List IA} {body:List ByteArray} (h:¬ (domL (LL name) && mailL u d tos body)=true):cliNew name u d tos body=zCli:=if_neg h
theorem zeroB:MailB ⟨#[]⟩ ⟨#[]⟩ [] []:=⟨Nat.zero_le _,Nat.zero_le _,⟨Nat.zero_le _,fun x hx=>by cases hx⟩,Nat.zero_le _,fun x hx=>by cases hx⟩
theorem drawCliNew_ev (l:List Int) (hl:∀ z ∈ l,(Lit.int .u8 z).wf=true):∃ name u d tos body,Ev (fun k=>spec_DrawCliNew.f k l) (name,u,d,tos,body)∧name.size≤9∧MailD u d tos body:=by
 obtain ⟨b,hb,hb1,hb2⟩:=open_ok l hl
 have hB:Buf b:=⟨hb1,hb2⟩
 obtain ⟨x,name,p1,e1,a1,c1,n1,n2⟩:=anyAddr_dr hB (p:=0) (by omega) (by omega)
 obtain ⟨u,d,tos,body,p2,e2,a2,c2,hm⟩:=anyMail_dr hB (p:=p1) (by omega) (by omega)
 exact ⟨name,u,d,tos,body,by unfold spec_DrawCliNew.f;exact Ev.bnd (Ev.k hb) (Ev.bnd e1 (Ev.bnd e2 (Ev.ret _))),n2,hm⟩
theorem copied_f {u d:ByteArray} {tos:List IA} {body:List ByteArray} (hB:MailB u d tos body):impl_Mail_copied.f u d tos body=some (u,d,tos,body):=by
 obtain ⟨_,_,⟨h2,_⟩,h4,_⟩:=hB
 unfold impl_Mail_copied.f slices_Clone_impl_Addr_impl_Addr.f slices_Clone_string_string.f
 rw [if_pos (by omega),if_pos (by omega)]
 rfl
theorem l2Copy_f {u d:ByteArray} {tos:List IA} {body:List ByteArray} (hB:MailB u d tos body):spec_l2Copy.f u d tos body=some (u,d,tos,body):=by
 obtain ⟨_,_,⟨h2,_⟩,h4,_⟩:=hB
 unfold spec_l2Copy.f
 simp only [Option.bind_some,List.length_nil,List.nil_append,Nat.zero_add]
 rw [if_pos (by omega),if_pos (by omega)]
theorem all_none:∀ n:Nat,(List.replicate n (0:Int)).all outOk=true:=by
 intro n
 induction n with
 | zero=>rfl
 | succ n ih =>
  rw [List.replicate_succ,List.all_cons,ih]
  decide
theorem cliL_new (name u d:ByteArray) (tos:List IA) (body:List ByteArray):cliL name u d tos body 0 0 (List.replicate tos.length 0)=(domL (LL name) && mailL u d tos body):=by
 unfold cliL cliFin inB
 rw [all_none,List.length_replicate]
 simp
 exact Bool.and_comm _ _
section
variable {name u d:ByteArray} {tos:List IA} {body:List ByteArray} (hB:MailB u d tos body) (hn:name.size≤1048576)
include hB hn
theorem cliOk_new:Ev (fun k=>impl_CliOk.f k name u d tos body 0 0 (List.replicate tos.length 0)) (domL (LL name) && mailL u d tos body):=by
 have h2:=hB.2.2.1.1
 exact Ev.eq (implCliOk_ev hB hn (by rw [List.length_replicate];omega)) (cliL_new name u d tos body)
theorem implCliNew_ev:Ev (fun k=>impl_CliNew.f k name u d tos body) (cliNew name u d tos body):=by
 have h2:=hB.2.2.1.1
 unfold impl_CliNew.f
 refine Ev.bnd (Ev.k (copied_f hB)) (Ev.pos (by omega) (Ev.pos (by rw [Int.toNat_natCast];omega) (Ev.bnd (Ev.ret _) ?_)))
 rw [Int.toNat_natCast]
 refine Ev.bnd (cliOk_new hB hn) ?_
 by_cases h:(domL (LL name) && mailL u d tos body)=true
 ·exact Ev.eq (Ev.pos h (Ev.ret _)) (cliNew_pos h).symm
 ·exact Ev.eq (Ev.neg h (Ev.ret _)) (cliNew_neg h).symm
theorem specCliNew_ev:Ev (fun k=>spec_CliNew.f k name u d tos body) (cliNew name u d tos body):=by
 have h2:=hB.2.2.1.1
 unfold spec_CliNew.f
 refine Ev.bnd (l1Domain_ev name (by omega)) ?_
 by_cases h:domL (LL name)=true
 ·refine Ev.pos h (Ev.bnd (l2Ok_ev hB) ?_)
  by_cases h':mailL u d tos body=true
  ·have e:spec_l4New.f name u d tos body=some (name,u,d,tos,body,0,0,List.replicate tos.length 0):=by
    unfold spec_l4New.f
    rw [l2Copy_f hB]
    simp only [Option.bind_some]
    rw [if_pos (by omega),if_pos (by rw [Int.toNat_natCast];omega),Int.toNat_natCast]
   exact Ev.eq (Ev.pos h' (Ev.bnd (Ev.k e) (Ev.ret _))) (cliNew_pos (Bool.and_eq_true_iff.2 ⟨h,h'⟩)).symm
  ·exact Ev.eq (Ev.neg h' (Ev.ret _)) (cliNew_neg (fun e=>h' (Bool.and_eq_true_iff.1 e).2)).symm
 ·exact Ev.eq (Ev.neg h (Ev.ret _)) (cliNew_neg (fun e=>h (Bool.and_eq_true_iff.1 e).1)).symm
end
theorem saInts_loop (l:List Int) (hm:l.length≤1099511627776):∀ d i:Nat,i+d=l.length→Ev (fun k=>laws_saInts.l0 k l l (i:Int)) true:=by
 intro d
 induction d with
 | zero =>
  intro i hi
  refine Ev.step (fun k=>by rw [laws_saInts.l0]) ?_
  exact Ev.neg (by omega) (Ev.ret _)
 | succ d ih =>
  intro i hi
  refine Ev.step (fun k=>by rw [laws_saInts.l0]) ?_
  refine Ev.pos (by omega) (Ev.pos (by omega) (Ev.pos (by omega) (Ev.pos rfl ?_)))
  rw [wsucc (by omega)]
  exact ih (i+1) (by omega)
theorem saCli_refl (name:ByteArray) {u d:ByteArray} {tos:List IA} {body:List ByteArray} (state at_:Int) (outs:List Int) (hB:MailB u d tos body) (ho:outs.length≤1099511627776) :
 Ev (fun k=>laws_saCli.f k name u d tos body state at_ outs name u d tos body state at_ outs) true:=by
 have e:Ev (fun k=>laws_saInts.f k outs outs) true:=by
  unfold laws_saInts.f
  exact Ev.pos rfl (saInts_loop outs ho outs.length 0 (by omega))
 unfold laws_saCli.f
 exact Ev.pos rfl (Ev.pos rfl (Ev.pos rfl (Ev.bnd e (Ev.pos rfl (Ev.bnd (saMail_refl hB) (Ev.ret _))))))
theorem rd_three (n i:Nat) (h:i < n):rd (List.replicate n (3:Int)) (i:Int)=3:=by
 rw [rdInt _ i (by rw [List.length_replicate];exact h),List.getElem_replicate]
section
variable {name u d:ByteArray} {tos:List IA} {body:List ByteArray} (hB:MailB u d tos body) (hn:name.size≤1048576) (hok:(domL (LL name) && mailL u d tos body)=true)
include hB hn hok
theorem outs_new:Ev (fun k=>impl_CliOuts.f k name u d tos body 0 0 (List.replicate tos.length 0)) (List.replicate tos.length 3):=by
 have h2:=hB.2.2.1.1
 have e:impl_Cli_copied.f name u d tos body 0 0 (List.replicate tos.length 0)=some (name,u,d,tos,body,0,0,List.replicate tos.length 0):=by
  unfold impl_Cli_copied.f slices_Clone_int_int.f
  rw [copied_f hB,if_pos (by rw [List.length_replicate];omega)]
  rfl
 unfold impl_CliOuts.f
 refine Ev.bnd (Ev.eq (cliOk_new hB hn) hok) (Ev.pos rfl (Ev.bnd (Ev.k e) (Ev.pos (by show (List.replicate tos.length (0:Int)).length≤_;rw [List.length_replicate];omega) (Ev.eq (Ev.ret _) ?_))))
 show (List.replicate tos.length (0:Int)).map outTo=_
 rw [List.map_replicate]
 rfl
theorem outs_loop:∀ m i:Nat,i+m=tos.length→Ev (fun k=>laws_FnCliNew.l0 k (List.replicate tos.length 3) (i:Int) u d tos body name u d tos body 0 0 (List.replicate tos.length 0)) true:=by
 have h2:=hB.2.2.1.1
 have hlen:(List.replicate tos.length (3:Int)).length=tos.length:=List.length_replicate
 intro m
 induction m with
 | zero =>
  intro i hi
  refine Ev.step (fun k=>by rw [laws_FnCliNew.l0]) (Ev.neg (by rw [hlen];omega) (Ev.bnd (Ev.eq (cliOk_new hB hn) hok) (Ev.pos rfl (Ev.eq (Ev.ret _) ?_))))
  rw [hlen]
  exact beq_self_eq_true _
 | succ m ih =>
  intro i hi
  refine Ev.step (fun k=>by rw [laws_FnCliNew.l0]) (Ev.pos (by rw [hlen];omega) (Ev.pos (by omega) (Ev.pos (rd_three _ i (by omega)) ?_)))
  rw [wsucc (by omega)]
  exact ih (i+1) (by omega)
end
theorem fnCliNew_pure:∀ (l0:List Int),(l0.length≤maxLen∧∀ z ∈ l0,(Lit.int .u8 z).wf=true)→∃ k,laws_FnCliNew.f k l0=some true:=by
 intro l hl
 refine Ev.ex ?_
 unfold laws_FnCliNew.f
 by_cases h:(l.length:Int) > 1048576
 ·exact Ev.pos h (Ev.ret _)
 ·obtain ⟨name,u,d,tos,body,hx,hn,hD⟩:=drawCliNew_ev l hl.2
  have hB:=hD.b
  have hn':name.size≤1048576:=by omega
  have h2:=hB.2.2.1.1
  have e1:=implCliNew_ev hB hn'
  have e2:=specCliNew_ev hB hn'
  by_cases hok:(domL (LL name) && mailL u d tos body)=true
  ·rw [cliNew_pos hok] at e1 e2
   refine Ev.neg h (Ev.bnd hx (Ev.bnd e1 (Ev.bnd e2 (Ev.bnd (saCli_refl name 0 0 _ hB (by rw [List.length_replicate];omega)) (Ev.pos rfl ?_)))))
   show Ev (fun k=>laws_FnCliNew.j0 k name (name.toList==([]:List UInt8)) u d tos body name u d tos body 0 0 (List.replicate tos.length 0)) true
   have hne:name≠⟨#[]⟩:=fun e=>by
    have hd:=(Bool.and_eq_true_iff.1 hok).1
    rw [e] at hd
    exact absurd hd (by decide)
   rw [toList_nil,decide_eq_false hne]
   exact Ev.step (fun k=>by rw [laws_FnCliNew.j0]) (Ev.neg (by simp) (Ev.bnd (outs_new hB hn' hok) (outs_loop hB hn' hok tos.length 0 (by omega))))
  ·rw [cliNew_neg hok] at e1 e2
   have hs:=saCli_refl ⟨#[]⟩ 0 0 [] zeroB (Nat.zero_le _)
   refine Ev.neg h (Ev.bnd hx (Ev.bnd e1 (Ev.bnd e2 (Ev.bnd hs (Ev.pos rfl ?_)))))
   show Ev (fun k=>laws_FnCliNew.j0 k name ((⟨#[]⟩:ByteArray).toList==([]:List UInt8)) u d tos body ⟨#[]⟩ ⟨#[]⟩ ⟨#[]⟩ [] [] 0 0 []) true
   rw [toList_nil,decide_eq_true rfl]
   exact Ev.step (fun k=>by rw [laws_FnCliNew.j0]) (Ev.pos rfl (Ev.bnd e2 (Ev.bnd hs (Ev.ret _))))
end Go.Proofs.YthkibaldmjfmmaaDoor.Q
