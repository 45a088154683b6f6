/- Of texts of ours what this claim needs. -/
import Derived.Test.YtjdpdkdhfnpcgaaGreatDoorZzFnNoteGetTPl0
namespace Go.Proofs.YtjdpdkdhfnpcgaaGreatDoor.Q
open Go.RowKit Go.Proofs.YtjdpdkdhfnpcgaaGreatDoorW.PrintWords Go.Proofs.YtjdpdkdhfnpcgaaGreatDoorW.PrintLast Go.Proofs.YtjdpdkdhfnpcgaaGreatDoorW.PrintMore
set_option linter.unusedVariables false
set_option linter.unusedSimpArgs false
abbrev RT:=S143
def RcptD (r:RT):Prop:=r.f0.f0.size≤11∧r.f0.f1.size≤9∧0≤r.f1∧r.f1≤3
def ItemD (x:IT):Prop:=1≤x.f2.length∧x.f2.length≤5∧(∀ r∈x.f2,RcptD r)∧x.f3.length≤13
theorem itMem (l:List IT)(i:Nat)(h:i<l.length):zq4 l (i:Int)∈l:=by
 unfold zq4;rw[Int.toNat_natCast,List.getD_eq_getElem?_getD,List.getElem?_eq_getElem h];exact List.getElem_mem h
theorem rtMem (l:List RT)(i:Nat)(h:i<l.length):zq17 l (i:Int)∈l:=by
 unfold zq17;rw[Int.toNat_natCast,List.getD_eq_getElem?_getD,List.getElem?_eq_getElem h];exact List.getElem_mem h
theorem copyItem_f {x:IT}(h:ItemD x):yap.f x.f0 x.f1.f0 x.f1.f1 x.f2 x.f3=some (x.f0,x.f1.f0,x.f1.f1,x.f2,x.f3):=by
 obtain⟨_,h1,_,h2⟩:=h;unfold yap.f;simp only[Option.bind_some,List.length_nil,List.nil_append];rw[if_pos zoo,if_pos zoo]
theorem l5Copy_has (last:Int)(l:List IT)(hl:l.length≤1000)(hd:∀ x∈l,ItemD x):Has (fun k=>yaw.f k last l) (fun v=>v.2.length=l.length∧∀ x∈v.2,ItemD x):=by
 have loop:∀ m i:Nat,i+m=l.length→∀(z:Int) (y:List IT),y.length=i→(∀ x∈y,ItemD x)→Has (fun k=>yaw.l0 k (i:Int) last l z y) (fun v=>v.2.length=l.length∧∀ x∈v.2,ItemD x):=by
  intro m;induction m with
  | zero =>
   intro i hi z y hy hyd;exact Has.step (fun k=>by rw[yaw.l0]) (Has.neg zoo (Has.ret ⟨by show y.length=_;omega,hyd⟩))
  | succ m ih =>
   intro i hi z y hy hyd;have hx:=hd _ (itMem l i zoo);refine Has.step (fun k=>by rw[yaw.l0]) (Has.pos zoo (Has.pos zoo (Has.bnd (Ev.k (copyItem_f hx)) ?_)));refine Has.pos zoo ?_;rw[wsucc zoo];refine ih (i+1) zoo z _ (by simp<;>omega) (fun q hq=>?_);rcases List.mem_append.1 hq with q1|q1
   ·exact hyd q q1
   ·rw[List.mem_singleton.1 q1];exact hx
 exact loop l.length 0 zoo last [] rfl (fun x hx=>by cases hx)
theorem l5Add_has (last now:Int)(l:List IT)(hl:l.length≤1000)(hd:∀ x∈l,ItemD x){u d:ByteArray}{tos:List IA}{body:List ByteArray}(hm:MailD u d tos body)(ht:1≤tos.length) :
 Has (fun k=>yai.f k last l u d tos body now) (fun v=>v.2.length=l.length+1∧∀ x∈v.2,ItemD x):=by
 obtain⟨m1,m2,⟨m3,m4⟩,m5,m6⟩:=hm;have loop:∀ m i:Nat,i+m=tos.length→∀(nid:Int) (fu fd:ByteArray) (y:List RT),y.length=i→(∀ r∈y,RcptD r)→Has (fun k=>yai.l0 k now (i:Int) last l u d tos body nid fu fd y body) (fun v=>v.2.length=l.length+1∧∀ x∈v.2,ItemD x):=by
  intro m;induction m with
  | zero =>
   intro i hi nid fu fd y hy hyd;refine Has.step (fun k=>by rw[yai.l0]) (Has.neg zoo ?_);simp only[Option.bind_some,List.nil_append,List.length_nil];refine Has.pos zoo (Has.pos (by simp<;>omega) (Has.ret ⟨by simp,fun x hx=>?_⟩));rcases List.mem_append.1 hx with q|q
   ·exact hd x q
   ·rw[List.mem_singleton.1 q];exact⟨by show 1≤y.length;omega,by show y.length≤5;omega,hyd,m5⟩
  | succ m ih =>
   intro i hi nid fu fd y hy hyd;refine Has.step (fun k=>by rw[yai.l0]) (Has.pos zoo (Has.pos zoo ?_));simp only[Option.bind_some];refine Has.pos (by simp<;>omega) ?_;rw[wsucc zoo];have hr:=rdIA tos i zoo;have hmem:=m4 _ (List.getElem_mem (l:=tos) (n:=i) zoo);refine ih (i+1) zoo nid fu fd _ (by simp<;>omega) (fun r hq=>?_);rcases List.mem_append.1 hq with q|q
   ·exact hyd r q
   ·rw[List.mem_singleton.1 q,hr];exact⟨hmem.1,hmem.2,by show(0:Int)≤0;omega,by show(0:Int)≤3;omega⟩
 unfold yai.f;simp only[Option.bind_some,List.nil_append,List.length_nil];exact Has.pos zoo (loop tos.length 0 zoo _ u d [] rfl (fun r hr=>by cases hr))
theorem l5Done_some (last:Int)(l:List IT)(hl:l.length≤1000)(hd:∀ x∈l,ItemD x)(i j:Nat)(hi:i<l.length)(hj:j<(zq4 l (i:Int)).f2.length) :
 ∃ v,yaY.f last l (i:Int) (j:Int)=some v∧v.2.length≤l.length∧∀ x∈v.2,ItemD x:=by
 have hx:=hd _ (itMem l i hi);unfold yaY.f;rw[if_pos zoo,if_pos zoo,copyItem_f hx];generalize zq4 l (i:Int)=x at *;obtain⟨a1,a2,a3,a4⟩:=hx;have t1:(x.f2.take j).length=j:=by rw[List.length_take];omega
 have t2:(x.f2.drop (j+1)).length=x.f2.length - (j+1):=List.length_drop;have t3:(l.take i).length=i:=by rw[List.length_take];omega
 have t4:(l.drop (i+1)).length=l.length - (i+1):=List.length_drop;simp only[Option.bind_some,List.nil_append,List.length_nil,wsucc (i:=j) zoo,wsucc (i:=i) zoo,Int.toNat_natCast];rw[if_pos zoo,if_pos zoo,if_pos zoo,if_pos zoo,if_pos zoo,if_pos zoo,if_pos zoo,if_pos zoo];have hrest:∀ r∈x.f2.take j++x.f2.drop (j+1),RcptD r:=fun r hr=>by
  rcases List.mem_append.1 hr with q|q
  ·exact a3 r (List.mem_of_mem_take q)
  ·exact a3 r (List.mem_of_mem_drop q)
 by_cases h0:((x.f2.take j++x.f2.drop (j+1)).length:Int)>0
 ·rw[if_pos h0,if_pos zoo,if_pos zoo,if_pos zoo,if_pos (by simp<;>omega)];refine⟨_,rfl,by simp<;>omega,fun q hq=>?_⟩;rcases List.mem_append.1 hq with q1|q1
  ·rcases List.mem_append.1 q1 with q2|q2
   ·exact hd q (List.mem_of_mem_take q2)
   ·rw[List.mem_singleton.1 q2];exact⟨by show 1≤(x.f2.take j++x.f2.drop (j+1)).length;omega,by show(x.f2.take j++x.f2.drop (j+1)).length≤5;rw[List.length_append];omega,hrest,a4⟩
  ·exact hd q (List.mem_of_mem_drop q1)
 ·rw[if_neg h0,if_pos zoo,if_pos zoo,if_pos zoo];refine⟨_,rfl,by simp<;>omega,fun q hq=>?_⟩;rcases List.mem_append.1 hq with q1|q1
  ·exact hd q (List.mem_of_mem_take q1)
  ·exact hd q (List.mem_of_mem_drop q1)
theorem l5Pause_some (n:Int)(h:n≤100):∃ v,Ev (fun k=>yaK.f k n) v:=by
 have loop:∀ m i:Nat,(n:Int)≤i+m→i≤1000→∀ x:Int,∃ v,Ev (fun k=>yaK.l0 k n x (i:Int)) v:=by
  intro m;induction m with
  | zero =>
   intro i hi hi2 x;exact⟨x,Ev.step (fun k=>by rw[yaK.l0]) (Ev.neg zoo (Ev.ret _))⟩
  | succ m ih =>
   intro i hi hi2 x;by_cases c:(i:Int)<n
   ·obtain⟨v,e⟩:=ih (i+1) zoo zoo (wrap64 (x*2));rw[← wsucc zoo]at e;exact⟨v,Ev.step (fun k=>by rw[yaK.l0]) (Ev.pos c e)⟩
   ·exact⟨x,Ev.step (fun k=>by rw[yaK.l0]) (Ev.neg c (Ev.ret _))⟩
 exact loop 100 1 zoo zoo 2
theorem l5Later_has (last now:Int)(l:List IT)(hl:l.length≤1000)(hd:∀ x∈l,ItemD x)(i j:Nat)(hi:i<l.length)(hj:j<(zq4 l (i:Int)).f2.length) :
 Has (fun k=>ybw.f k last l (i:Int) (j:Int) now) (fun v=>v.2.1.length=l.length∧∀ x∈v.2.1,ItemD x):=by
 have hx:=hd _ (itMem l i hi);unfold ybw.f;refine Has.pos zoo (Has.pos zoo (Has.bnd (Ev.k (copyItem_f hx)) (Has.pos zoo (Has.pos (by show(j:Int)<((zq4 l (i:Int)).f2.length:Int);omega) ?_))));generalize zq4 l (i:Int)=x at *;obtain⟨a1,a2,a3,a4⟩:=hx;have hr:=a3 _ (rtMem x.f2 j hj);show Has (fun k=>(yaK.f k (wrap64 ((zq17 x.f2 (j:Int)).f1+1))).bind _) _;obtain⟨r1,r2,r3,r4⟩:=hr;have hw:wrap64 ((zq17 x.f2 (j:Int)).f1+1)=(zq17 x.f2 (j:Int)).f1+1:=w64 zoo zoo;obtain⟨v,e⟩:=l5Pause_some (wrap64 ((zq17 x.f2 (j:Int)).f1+1)) zoo;refine Has.bnd e ?_;have same:Has (fun _:Nat=>some (last,l,false)) (fun v=>v.2.1.length=l.length∧∀ x∈v.2.1,ItemD x):=Has.ret ⟨rfl,hd⟩;by_cases h4:wrap64 ((zq17 x.f2 (j:Int)).f1+1)≥4
 ·exact Has.pos h4 same
 refine Has.neg h4 ?_;by_cases h5:wrap64 (now+v)>9999
 ·exact Has.pos h5 same
 refine Has.neg h5 ?_;simp only[Option.bind_some,List.nil_append,List.length_nil];have hset:∀(y:List RT) (r:RT),(∀ q∈y,RcptD q)→RcptD r→∀ q∈y.set ((j:Int).toNat) r,RcptD q:=fun y r hy hr q hq=>by
  rcases List.mem_or_eq_of_mem_set hq with h|h
  ·exact hy q h
  ·rw[h];exact hr
 refine Has.pos zoo (Has.pos zoo (Has.ret ⟨by simp,fun q hq=>?_⟩));rcases List.mem_or_eq_of_mem_set hq with h|h
 ·exact hd q h
 ·rw[h];have hy:∀ q∈x.f2.set ((j:Int).toNat) (⟨(⟨(zq17 x.f2 (j:Int)).f0.f0,(zq17 x.f2 (j:Int)).f0.f1⟩:IA),wrap64 ((zq17 x.f2 (j:Int)).f1+1),(zq17 x.f2 (j:Int)).f2⟩:RT),RcptD q:=hset _ _ a3 ⟨r1,r2,by show 0≤wrap64 _;omega,by show wrap64 _≤3;omega⟩;have hm:=hy _ (rtMem _ j (by rw[List.length_set];exact hj));refine⟨by show 1≤(List.set _ _ _).length;simp<;>omega,by show(List.set _ _ _).length≤5;simp<;>omega,hset _ _ hy ?_,a4⟩;exact⟨hm.1,hm.2.1,hm.2.2.1,hm.2.2.2⟩
theorem spool_l0 {b:List Int}(hb:Buf b):∀(n:Nat) (now p last:Int) (l:List IT),0≤p→p+110*n≤1000→l.length+n≤9→(∀ x∈l,ItemD x) →
 Has (fun k=>yam.l0 k now (n:Int) b p last l) (fun v=>v.2.1.length≤9∧(∀ x∈v.2.1,ItemD x)∧p≤v.2.2∧v.2.2≤p+110*n):=by
 intro n;induction n with
 | zero =>
  intro now p last l h0 h1 hl hd;obtain⟨⟨z,y⟩,e,e1,e2⟩:=l5Copy_has last l zoo hd;have e1:y.length=l.length:=e1;have fin:y.length≤9∧(∀ x∈y,ItemD x)∧p≤p∧p≤p+110*((0:Nat):Int):=⟨by omega,e2,by omega,by omega⟩;exact Has.step (fun k=>by rw[yam.l0]) (Has.neg zoo (Has.bnd e ⟨_,Ev.ret _,fin⟩))
 | succ n ih =>
  intro now p last l h0 h1 hl hd;(have hw:wrap64 (((n+1:Nat):Int) - 1)=(n:Int):=by rw[w64 zoo zoo];omega);obtain⟨t,p1,e1,a1,c1,_,_⟩:=pick_dr hb (p:=p) 5 h0 zoo zoo;have next:∀(q last' now':Int) (l':List IT),p≤q→q≤p+110→l'.length+n≤9→(∀ x∈l',ItemD x)→Has (fun k=>yam.l0 k now' (wrap64 (((n+1:Nat):Int) - 1)) b q last' l') (fun v=>v.2.1.length≤9∧(∀ x∈v.2.1,ItemD x)∧p≤v.2.2∧v.2.2≤p+110*((n+1:Nat):Int)):=by
   intro q last' now' l' hq hq2 hl' hd';rw[hw];refine(ih now' q last' l' zoo zoo hl' hd').imp (fun v hv=>?_);obtain⟨v1,v2,v3,v4⟩:=hv;exact⟨v1,v2,by omega,by omega⟩
  have j1:∀(x:Bool) (q now':Int),p≤q→q≤p+2→(x=false→l≠[])→Has (fun k=>yam.j1 k now' ((n+1:Nat):Int) x b q last l) (fun v=>v.2.1.length≤9∧(∀ x∈v.2.1,ItemD x)∧p≤v.2.2∧v.2.2≤p+110*((n+1:Nat):Int)):=by
   intro x q now' hq hq2 hx;refine Has.step (fun k=>by rw[yam.j1]) ?_;cases x with
   | true =>
    have hroom:∃ r,ybu.f last l=some r:=by
     unfold ybu.f;split
     ·exact⟨_,rfl⟩
     ·exact⟨_,rfl⟩
    obtain⟨r,hr⟩:=hroom;refine Has.pos rfl (Has.bnd (Ev.k hr) ?_);by_cases hrt:r=true
    ·obtain⟨u,d,tos,body,p2,e2,a2,c2,hm,ht4,ht1⟩:=mail_dr hb (p:=q) zoo zoo;obtain⟨⟨z,y⟩,e3,f1,f2⟩:=l5Add_has last now' l zoo hd hm ht1;have f1:y.length=l.length+1:=f1;exact Has.pos hrt (Has.bnd e2 (Has.bnd e3 (next p2 z now' y zoo zoo zoo f2)))
    ·exact Has.neg hrt (next q last now' l hq zoo zoo hd)
   | false =>
    have hne:=List.length_pos_iff.2 (hx rfl);obtain⟨i0,p2,e2,a2,c2,m0,m1⟩:=pick_dr hb (p:=q) (l.length:Int) zoo zoo zoo;have m1:=m1 zoo;obtain⟨i,rfl⟩:=int_of_nat m0;(have hil:i<l.length:=by omega);have hx2:=hd _ (itMem l i hil);obtain⟨j0,p3,e3,a3,c3,m2,m3⟩:=pick_dr hb (p:=p2) ((zq4 l (i:Int)).f2.length:Int) zoo zoo (by have:=hx2.2.1;omega);have m3:=m3 (by have:=hx2.1;omega);obtain⟨j,rfl⟩:=int_of_nat m2;obtain⟨w,p4,e4,a4,c4,_,_⟩:=pick_dr hb (p:=p3) 2 zoo zoo zoo;refine Has.neg zod (Has.bnd e2 (Has.pos zoo (Has.pos m1 (Has.bnd e3 (Has.bnd e4 ?_)))));by_cases hw0:w=0
    ·obtain⟨⟨z,y⟩,ey,y1,y2⟩:=l5Done_some last l zoo hd i j hil zoo;have y1:y.length≤l.length:=y1;exact Has.pos hw0 (Has.bnd (Ev.k ey) (next p4 z now' y zoo zoo zoo y2))
    ·obtain⟨⟨z,y,o⟩,ey,y1,y2⟩:=l5Later_has last now' l zoo hd i j hil zoo;have y1:y.length=l.length:=y1;exact Has.neg hw0 (Has.bnd ey (next p4 z now' y zoo zoo zoo y2))
  refine Has.step (fun k=>by rw[yam.l0]) (Has.pos zoo (Has.bnd e1 ?_));by_cases hl0:(l.length:Int)=0
  ·exact Has.pos hl0 (j1 true p1 _ a1 zoo (fun h=>by cases h))
  ·obtain⟨s,p2,e2,a2,c2,_,_⟩:=pick_dr hb (p:=p1) 2 zoo zoo zoo;exact Has.neg hl0 (Has.bnd e2 (j1 _ p2 _ zoo zoo (fun _ h=>hl0 (by rw[h];rfl))))
theorem spool_has {b:List Int}(hb:Buf b):Has (fun k=>yam.f k b 0) (fun v=>v.2.1.length≤9∧(∀ x∈v.2.1,ItemD x)∧0≤v.2.2∧v.2.2≤900):=by
 obtain⟨t,p1,e1,a1,c1,m0,m1⟩:=pick_dr hb (p:=0) 9 zoo zoo zoo;have m1:=m1 zoo;obtain⟨n,rfl⟩:=int_of_nat m0;unfold yam.f;refine Has.bnd e1 ((spool_l0 hb n 0 p1 0 [] zoo zoo (by simp<;>omega) (fun x hx=>by cases hx)).imp (fun v hv=>?_));obtain⟨v1,v2,v3,v4⟩:=hv;exact⟨v1,v2,by omega,by omega⟩
def NoteOfD (p:Int)(v:Int × ByteArray × ByteArray × Int):Prop:=v.2.1.size≤11∧v.2.2.1.size≤9∧p≤v.2.2.2∧v.2.2.2≤p+10
theorem of_has {b:List Int}(hb:Buf b){p:Int}(h0:0≤p)(h1:p≤10000)(last:Int)(l:List IT)(hl:l.length≤1000)(hd:∀ x∈l,ItemD x):Has (fun k=>yby.f k b p last l) (NoteOfD p):=by
 have far:∀ q:Int,p≤q→q≤p+1→Has (fun k=>ofFar k b q) (NoteOfD p):=by
  intro q hq hq2;obtain⟨t,p1,e1,a1,c1,_,_⟩:=pick_dr hb (p:=q) 4 zoo zoo zoo;obtain⟨u,d,p2,e2,a2,c2,m1,m2⟩:=addr_dr hb (p:=p1) zoo zoo;unfold ofFar;exact Has.bnd e1 (Has.bnd e2 (Has.ret ⟨m1,m2,by show p≤p2;omega,by show p2≤p+10;omega⟩))
 unfold yby.f;by_cases hl0:(l.length:Int)=0
 ·exact Has.pos hl0 (far p zoo zoo)
 obtain⟨t,p1,e1,a1,c1,_,_⟩:=pick_dr hb (p:=p) 6 zoo zoo zoo;refine Has.neg hl0 (Has.bnd e1 ?_);by_cases ht:t=0
 ·exact Has.pos ht (far p1 a1 zoo)
 refine Has.neg ht ?_;unfold ofNear;obtain⟨i0,p2,e2,a2,c2,m0,m1⟩:=pick_dr hb (p:=p1) (l.length:Int) zoo zoo zoo;have m1:=m1 zoo;obtain⟨i,rfl⟩:=int_of_nat m0;have hx:=hd _ (itMem l i zoo);refine Has.bnd e2 (Has.pos ⟨by omega,m1⟩ ?_);show Has (fun k=>ofItem k b p2 (zq4 l (i:Int))) _;generalize zq4 l (i:Int)=x at *;obtain⟨x1,x2,x3,_⟩:=hx;unfold ofItem;refine Has.neg zoo ?_;obtain⟨j0,p3,e3,a3,c3,m2,m3⟩:=pick_dr hb (p:=p2) (x.f2.length:Int) zoo zoo zoo;have m3:=m3 zoo;obtain⟨j,rfl⟩:=int_of_nat m2;have hr:=x3 _ (rtMem x.f2 j zoo);exact Has.bnd e3 (Has.pos ⟨by omega,m3⟩ (Has.ret ⟨hr.1,hr.2.1,by show p≤p3;omega,by show p3≤p+10;omega⟩))
abbrev DNote:=Int × Int × ByteArray × ByteArray × Int × ByteArray × ByteArray × List IA × List ByteArray × Int
def NoteD (p n:Int)(v:DNote):Prop:=v.2.2.1.size≤11∧v.2.2.2.1.size≤11∧MailB v.2.2.2.2.2.1 v.2.2.2.2.2.2.1 v.2.2.2.2.2.2.2.1 v.2.2.2.2.2.2.2.2.1∧p≤v.2.2.2.2.2.2.2.2.2∧v.2.2.2.2.2.2.2.2.2≤p+n
theorem noteD_mk {p n kind id now q:Int}{u d fu fd:ByteArray}{tos:List IA}{body:List ByteArray}(hu:u.size≤11)(hd:d.size≤11)(hB:MailB fu fd tos body)(h0:p≤q)(h1:q≤p+n):NoteD p n (kind,id,u,d,now,fu,fd,tos,body,q):=⟨hu,hd,hB,h0,h1⟩
theorem nullM_B:MailB ⟨#[]⟩ ⟨#[]⟩ [] []:=⟨Nat.zero_le _,Nat.zero_le _,⟨Nat.zero_le _,fun x hx=>by cases hx⟩,Nat.zero_le _,fun x hx=>by cases hx⟩
theorem note_has {b:List Int}(hb:Buf b){p:Int}(h0:0≤p)(h1:p≤900)(last:Int)(l:List IT)(hl:l.length≤1000)(hd:∀ x∈l,ItemD x):Has (fun k=>yaZ.f k b p last l) (NoteD p 110):=by
 have j0:∀(x:Bool) (q:Int),p≤q→q≤p+1→Has (fun k=>yaZ.j0 k x b q last l) (NoteD p 110):=by
  intro x q hq hq2;refine Has.step (fun k=>by rw[yaZ.j0]) ?_;cases x with
  | true =>
   obtain⟨u,d,tos,body,p2,e2,a2,c2,hm,_,_⟩:=mail_dr hb (p:=q) zoo zoo;obtain⟨t,p3,e3,a3,c3,_,_⟩:=pick_dr hb (p:=p2) 50 zoo zoo zoo;exact Has.pos rfl (Has.bnd e2 (Has.bnd e3 (Has.ret (noteD_mk (Nat.zero_le _) (Nat.zero_le _) hm.b zoo zoo))))
  | false =>
   obtain⟨⟨i,u,d,p2⟩,e2,m1,m2,a2,c2⟩:=of_has hb (p:=q) zoo zoo last l hl hd;have m1:u.size≤11:=m1;have m2:d.size≤9:=m2;have a2:q≤p2:=a2;have c2:p2≤q+10:=c2;obtain⟨t,p3,e3,a3,c3,_,_⟩:=pick_dr hb (p:=p2) 2 zoo zoo zoo;refine Has.neg zod (Has.bnd e2 (Has.bnd e3 ?_));by_cases ht:t=0
   ·exact Has.pos ht (Has.ret (noteD_mk m1 zoo nullM_B zoo zoo))
   ·obtain⟨t2,p4,e4,a4,c4,_,_⟩:=pick_dr hb (p:=p3) 50 zoo zoo zoo;exact Has.neg ht (Has.bnd e4 (Has.ret (noteD_mk m1 zoo nullM_B zoo zoo)))
 unfold yaZ.f;by_cases hl0:(l.length:Int)=0
 ·exact Has.pos hl0 (j0 true p zoo zoo)
 ·obtain⟨t,p1,e1,a1,c1,_,_⟩:=pick_dr hb (p:=p) 3 zoo zoo zoo;exact Has.neg hl0 (Has.bnd e1 (j0 _ p1 a1 zoo))
end Go.Proofs.YtjdpdkdhfnpcgaaGreatDoor.Q
namespace Go.Proofs.YtjdpdkdhfnpcgaaGreatDoor.Q
open Go.RowKit Go.Proofs.YtjdpdkdhfnpcgaaGreatDoorW.PrintWords Go.Proofs.YtjdpdkdhfnpcgaaGreatDoorW.PrintLast Go.Proofs.YtjdpdkdhfnpcgaaGreatDoorW.PrintMore
set_option linter.unusedVariables false
theorem saNote_same (kind id:Int)(u d:ByteArray)(now:Int){fu fd:ByteArray}{tos:List IA}{body:List ByteArray}(hB:MailB fu fd tos body):Ev (fun k=>ybk.f k kind id u d now fu fd tos body kind id u d now fu fd tos body) true:=by
 unfold ybk.f;exact Ev.pos rfl (Ev.pos rfl (Ev.pos (by simp) (Ev.pos rfl (Ev.bnd (saMail_refl hB) (Ev.ret _)))))
theorem notePut_size (kind id:Int)(u d:ByteArray)(now:Int)(fu fd:ByteArray)(tos:List IA)(body:List ByteArray):(notePut kind id u d now fu fd tos body).size≤820:=by
 unfold notePut;by_cases h:noteL kind id u d now fu fd tos body=true
 ·rw[if_pos h,zq15];exact noteBody_len h
 ·rw[if_neg h];exact Nat.zero_le _
theorem drawNoteGet_ev (l:List Int)(hl:∀ z∈l,(Lit.int .u8 z).wf=true):∃ s,Ev (fun k=>ybg.f k l) s∧s.size≤824:=by
 obtain⟨b,hb,hb1,hb2⟩:=open_ok l hl;have hB:Buf b:=⟨hb1,hb2⟩;obtain⟨⟨last,items,p⟩,e1,s1,s2,s3,s4⟩:=spool_has hB;have s1:items.length≤9:=s1;have s3:0≤p:=s3;have s4:p≤900:=s4;obtain⟨⟨kind,id,u,d,now,fu,fd,tos,body,p1⟩,e2,m1,m2,m3,a1,c1⟩:=note_has hB s3 s4 last items zoo s2;have m1:u.size≤11:=m1;have m2:d.size≤11:=m2;have m3:MailB fu fd tos body:=m3;have a1:p≤p1:=a1;have c1:p1≤p+110:=c1;have hs:=specNotePut_ev (kind:=kind) (id:=id) (u:=u) (d:=d) (now:=now) zoo zoo m3;have hz:=notePut_size kind id u d now fu fd tos body;obtain⟨t,p2,e3,a2,c2,_,_⟩:=pick_dr hB (p:=p1) 2 zoo zoo zoo;unfold ybg.f;by_cases h:t=0
 ·exact⟨_,Ev.bnd (Ev.k hb) (Ev.bnd e1 (Ev.bnd e2 (Ev.bnd hs (Ev.bnd e3 (Ev.pos h (Ev.ret _)))))),by omega⟩
 ·obtain⟨y,p3,e4,a3,c3,h4⟩:=bent_dr hB (p:=p2) (notePut kind id u d now fu fd tos body) zoo zoo zoo;exact⟨y,Ev.bnd (Ev.k hb) (Ev.bnd e1 (Ev.bnd e2 (Ev.bnd hs (Ev.bnd e3 (Ev.neg h (Ev.bnd e4 (Ev.ret _))))))),by omega⟩
theorem fnNoteGet_pure:∀ (l0:List Int),(l0.length≤maxLen∧∀ z∈l0,(Lit.int .u8 z).wf=true)→∃ k,yaX.f k l0=some true:=by
 intro l hl;refine Ev.ex ?_;unfold yaX.f;by_cases h:(l.length:Int)>1048576
 ·exact Ev.pos h (Ev.ret _)
 ·obtain⟨s,hx,hz⟩:=drawNoteGet_ev l hl.2;obtain⟨⟨kind,id,u,d,now,fu,fd,tos,body,ok⟩,e1,e2,g⟩:=noteGet_ev s;have hB:MailB fu fd tos body:=by
   rcases g with g|⟨kind',id',u',d',now',fu',fd',tos',body',g,_,hB',_⟩
   ·unfold badN at g;simp only[Prod.mk.injEq]at g;obtain⟨rfl,rfl,rfl,rfl,rfl,rfl,rfl,rfl,rfl,rfl⟩:=g;exact badM_B
   ·simp only[Prod.mk.injEq]at g;obtain⟨rfl,rfl,rfl,rfl,rfl,rfl,rfl,rfl,rfl,rfl⟩:=g;exact hB'
  have hsa:=saNote_same kind id u d now hB;refine Ev.neg h (Ev.bnd hx (Ev.bnd e2 (Ev.bnd e1 (Ev.neg (by simp) (Ev.bnd hsa (Ev.pos rfl ?_))))));refine Ev.step (fun k=>by rw[yaX.j0]) ?_;rcases g with g|⟨kind',id',u',d',now',fu',fd',tos',body',g,hm,_,hp⟩
  ·unfold badN at g;simp only[Prod.mk.injEq]at g;obtain⟨rfl,rfl,rfl,rfl,rfl,rfl,rfl,rfl,rfl,rfl⟩:=g;exact Ev.pos rfl (Ev.pos rfl (Ev.bnd hsa (Ev.ret _)))
  ·simp only[Prod.mk.injEq]at g;obtain⟨rfl,rfl,rfl,rfl,rfl,rfl,rfl,rfl,rfl,rfl⟩:=g;have hsz:u.size≤1048576∧d.size≤1048576:=by
    rcases noteL_kind hm with ⟨_,_,hnu,_⟩|⟨_,_,_,_,ha,_⟩|⟨_,_,_,_,ha,_⟩
    ·obtain⟨rfl,rfl⟩:=nullA_eq hnu;exact⟨Nat.zero_le _,Nat.zero_le _⟩
    ·have:=addrL_size ha;omega
    ·have:=addrL_size ha;omega
   have hput:=implNotePut_ev (kind:=kind) (id:=id) (now:=now) hsz.1 hsz.2 hB;unfold notePut at hput;rw[if_pos hm,hp]at hput;exact Ev.neg (by simp) (Ev.bnd hput (Ev.pos rfl (Ev.bnd (implNoteOk_ev kind id u d now hsz.1 hsz.2 hB) (Ev.eq (Ev.ret _) hm))))
end Go.Proofs.YtjdpdkdhfnpcgaaGreatDoor.Q
