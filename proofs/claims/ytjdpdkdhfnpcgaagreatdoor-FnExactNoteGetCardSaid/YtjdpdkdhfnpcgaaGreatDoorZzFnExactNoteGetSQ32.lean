/- Of a text of ours what this claim needs. -/
import Derived.Test.YtjdpdkdhfnpcgaaGreatDoorZzFnExactNoteGetSQ0
import Derived.Test.YtjdpdkdhfnpcgaaGreatDoorZzFnExactNoteGetSAu
import Derived.Test.YtjdpdkdhfnpcgaaGreatDoorZzFnExactNoteGetSQ18
import Derived.Test.YtjdpdkdhfnpcgaaGreatDoorZzFnExactNoteGetSQ25
import Derived.Test.YtjdpdkdhfnpcgaaGreatDoorZzFnExactNoteGetSQ28
import Derived.Test.YtjdpdkdhfnpcgaaGreatDoorZzFnExactNoteGetSQ29
import Derived.Test.YtjdpdkdhfnpcgaaGreatDoorZzFnExactNoteGetSQ31
namespace Go.Proofs.YtjdpdkdhfnpcgaaGreatDoor.Q
open Go.RowKit Go.Proofs.YtjdpdkdhfnpcgaaGreatDoorW.PrintWords Go.Proofs.YtjdpdkdhfnpcgaaGreatDoorW.PrintLast Go.Proofs.YtjdpdkdhfnpcgaaGreatDoorW.PrintMore
attribute [local go_sem] max2_int min2_int max_two min_two max_three min_three max_four min_four
set_option linter.unusedVariables false
set_option linter.unusedSimpArgs false
mutual
def laws_FnExactNoteGet.j0:Nat→ByteArray→Bool→Bool→Int→Int→ByteArray→ByteArray→Int→ByteArray→ByteArray→List (S24)→List ByteArray→Int→Int→ByteArray→ByteArray→Int→ByteArray→ByteArray→List (S24)→List ByteArray→Option (Bool)
 | 0,_,_,_,_,_,_,_,_,_,_,_,_,_,_,_,_,_,_,_,_,_=>none
 | k+1,x0,x4,KQ,KR,KS,KT,KU,KV,KW,KX,KY,KZ,nf,ng,nh,ni,nj,nk,nn,yo,yp=>if KQ=true then (some false) else ((laws_markNote.f k nf ng nh ni nj nk nn yo yp 1).bind fun ki=>((laws_heldNote.f k nf ng nh ni nj nk nn ki.2.1 ki.2.2 1).bind fun aA=>(if aA < 0 then (some false) else (if aA=ki.1 then ((impl_NoteGet.f k x0).bind fun jm=>((laws_eqNote.f k jm.1 jm.2.1 jm.2.2.1 jm.2.2.2.1 jm.2.2.2.2.1 jm.2.2.2.2.2.1 jm.2.2.2.2.2.2.1 jm.2.2.2.2.2.2.2.1 jm.2.2.2.2.2.2.2.2.1 KR KS KT KU KV KW KX KY KZ).bind fun kZ=>(if kZ=true then (laws_FnExactNoteGet.j1 k ki.1 (jm.2.2.2.2.2.2.2.2.2 != x4) nf ng nh ni nj nk nn ki.2.1 ki.2.2) else (laws_FnExactNoteGet.j1 k ki.1 true nf ng nh ni nj nk nn ki.2.1 ki.2.2)))) else (some false)))))
def laws_FnExactNoteGet.j1:Nat→Int→Bool→Int→Int→ByteArray→ByteArray→Int→ByteArray→ByteArray→List (S24)→List ByteArray→Option (Bool)
 | 0,_,_,_,_,_,_,_,_,_,_,_=>none
 | k+1,x7,K0,nf,ng,nh,ni,nj,nk,nn,yo,yp=>if K0=true then (some false) else ((laws_heldNote.f k nf ng nh ni nj nk nn yo yp 1).bind fun f9=>(if f9 < 0 then (some false) else (if f9=x7 then (some true) else (some false))))
end
def laws_FnExactNoteGet.f (k:Nat) (a0:ByteArray):Option (Bool):=if (a0.size:Int) > 1048576 then (some true) else ((spec_NoteGet.f k a0).bind fun bw=>((impl_NoteGet.f k a0).bind fun bN=>((laws_eqNote.f k bN.1 bN.2.1 bN.2.2.1 bN.2.2.2.1 bN.2.2.2.2.1 bN.2.2.2.2.2.1 bN.2.2.2.2.2.2.1 bN.2.2.2.2.2.2.2.1 bN.2.2.2.2.2.2.2.2.1 bw.1 bw.2.1 bw.2.2.1 bw.2.2.2.1 bw.2.2.2.2.1 bw.2.2.2.2.2.1 bw.2.2.2.2.2.2.1 bw.2.2.2.2.2.2.2.1 bw.2.2.2.2.2.2.2.2.1).bind fun cR=>(if cR=true then (laws_FnExactNoteGet.j0 k a0 bw.2.2.2.2.2.2.2.2.2 (bN.2.2.2.2.2.2.2.2.2 != bw.2.2.2.2.2.2.2.2.2) bw.1 bw.2.1 bw.2.2.1 bw.2.2.2.1 bw.2.2.2.2.1 bw.2.2.2.2.2.1 bw.2.2.2.2.2.2.1 bw.2.2.2.2.2.2.2.1 bw.2.2.2.2.2.2.2.2.1 bN.1 bN.2.1 bN.2.2.1 bN.2.2.2.1 bN.2.2.2.2.1 bN.2.2.2.2.2.1 bN.2.2.2.2.2.2.1 bN.2.2.2.2.2.2.2.1 bN.2.2.2.2.2.2.2.2.1) else (laws_FnExactNoteGet.j0 k a0 bw.2.2.2.2.2.2.2.2.2 true bw.1 bw.2.1 bw.2.2.1 bw.2.2.2.1 bw.2.2.2.2.1 bw.2.2.2.2.2.1 bw.2.2.2.2.2.2.1 bw.2.2.2.2.2.2.2.1 bw.2.2.2.2.2.2.2.2.1 bN.1 bN.2.1 bN.2.2.1 bN.2.2.2.1 bN.2.2.2.2.1 bN.2.2.2.2.2.1 bN.2.2.2.2.2.2.1 bN.2.2.2.2.2.2.2.1 bN.2.2.2.2.2.2.2.2.1)))))
set_option maxHeartbeats 8000000 in
set_option maxRecDepth 100000 in
theorem laws_FnExactNoteGet.calls (k:Nat) (a0:ByteArray) (r:Bool) (w:World) (hG:GOKE w) (h:laws_FnExactNoteGet.f k a0=some r) :
 Calls Tryz.prog 4 #[.string a0] w fun e w'=>e=.returned (.bool r)∧Below w.heap.size w w':=by
 have hu30:=Tryz.underlying30
 have HG:=zA hG
 clear hG
 have HB:=zA (Below.refl w.heap.size w)
 have H:(if (a0.size:Int) > 1048576 then (some true) else ((spec_NoteGet.f k a0).bind fun bw=>((impl_NoteGet.f k a0).bind fun bN=>((laws_eqNote.f k bN.1 bN.2.1 bN.2.2.1 bN.2.2.2.1 bN.2.2.2.2.1 bN.2.2.2.2.2.1 bN.2.2.2.2.2.2.1 bN.2.2.2.2.2.2.2.1 bN.2.2.2.2.2.2.2.2.1 bw.1 bw.2.1 bw.2.2.1 bw.2.2.2.1 bw.2.2.2.2.1 bw.2.2.2.2.2.1 bw.2.2.2.2.2.2.1 bw.2.2.2.2.2.2.2.1 bw.2.2.2.2.2.2.2.2.1).bind fun cR=>(if cR=true then (laws_FnExactNoteGet.j0 k a0 bw.2.2.2.2.2.2.2.2.2 (bN.2.2.2.2.2.2.2.2.2 != bw.2.2.2.2.2.2.2.2.2) bw.1 bw.2.1 bw.2.2.1 bw.2.2.2.1 bw.2.2.2.2.1 bw.2.2.2.2.2.1 bw.2.2.2.2.2.2.1 bw.2.2.2.2.2.2.2.1 bw.2.2.2.2.2.2.2.2.1 bN.1 bN.2.1 bN.2.2.1 bN.2.2.2.1 bN.2.2.2.2.1 bN.2.2.2.2.2.1 bN.2.2.2.2.2.2.1 bN.2.2.2.2.2.2.2.1 bN.2.2.2.2.2.2.2.2.1) else (laws_FnExactNoteGet.j0 k a0 bw.2.2.2.2.2.2.2.2.2 true bw.1 bw.2.1 bw.2.2.1 bw.2.2.2.1 bw.2.2.2.2.1 bw.2.2.2.2.2.1 bw.2.2.2.2.2.2.1 bw.2.2.2.2.2.2.2.1 bw.2.2.2.2.2.2.2.2.1 bN.1 bN.2.1 bN.2.2.1 bN.2.2.2.1 bN.2.2.2.2.1 bN.2.2.2.2.2.1 bN.2.2.2.2.2.2.1 bN.2.2.2.2.2.2.2.1 bN.2.2.2.2.2.2.2.2.1))))))=some r:=h
 clear h
 by_cases c2:(a0.size:Int) > 1048576
 ·rw [if_pos c2] at H
  have c2b0:decide (1048576 < (a0.size:Int))=true:=decide_eq_true c2
  have c2b1:decide (1048576 < a0.size)=true:=decide_eq_true zY6
  clear c2
  obtain rfl:=Option.some.inj H
  go_enter Tryz.func4,Tryz.ntmps4
  go_wp2
  go_ret
  exact ⟨zT,zB⟩
 rw [if_neg c2] at H
 have c2b0:decide (1048576 < (a0.size:Int))=false:=decide_eq_false c2
 have c2b1:decide (1048576 < a0.size)=false:=decide_eq_false zY6
 clear c2
 replace H:=Option.bind_eq_some_iff.mp H
 obtain ⟨⟨b7,cV,dR,cu,b8,bZ,cB,cg,cF,cN⟩,bu,H⟩:=H
 try dsimp only at H
 have A3:=zA bu
 clear bu
 replace H:=Option.bind_eq_some_iff.mp H
 obtain ⟨⟨aT,bG,cd,aX,aY,bA,bb,bp,bq,fo⟩,ci,H⟩:=H
 try dsimp only at H
 have A4:=zA ci
 clear ci
 have iy:=zA H
 clear H
 go_enter Tryz.func4,Tryz.ntmps4
 go_upto_region 5 with (first|((with_reducible refine zq2 (f:=14) rfl ?_);refine zq4 (some 16) rfl rfl Tryz.func14 zY2 rfl #[.string a0] rfl zY0 ?_;(with_reducible refine (spec_NoteGet.calls k a0 b7 cV dR cu b8 bZ cB cg cF cN _ A3.out).mono ?_);rintro e w6 ⟨Fr,Ol,rfl,ar,cC,hb⟩;refine ⟨_,rfl,?_⟩;have eA:=zA (Kd.z6 ar (zq7 zB));have eV:=zA (Kd.z6 cC (zq7 zB));replace HB:=zA (zq0 zB hb);clear hb ar cC)|((with_reducible refine zq5 (N:=3) rfl ?_);refine zE (N:=3) (cs:=#[.int .i64 0,.int .i64 0,.string bz0,.string bz0,.int .i64 0,.string bz0,.string bz0,.slice none 0 0,.slice none 0 0]) (t:=30) ?_;intro fc hg w7 hbox hb;replace eA:=zA (Kd.z2 (zVR eA.out) hb);replace eV:=zA (Kd.z2 (zVR eV.out) hb);have br:=zA hbox;have Om:=zA (zS hg:w.heap.size≤fc);have On:=zA (zS hg:w.heap.size≤fc);replace HB:=zA (zq0 zB hb);clear hb hbox hg;obtain ⟨qt,qu,qv,qw,BY,BZ,B0,B1,B2⟩:=zc9 br.out;obtain ⟨qx,qy,qz,qA,B9,Ca,Cb,Cc,Cd⟩:=zf9 br.out;obtain ⟨dY,db,nE⟩:=Kd.z9 eA.out;subst nE;obtain ⟨dG,dc,nD⟩:=Kd.z9 eV.out;subst nD)|((with_reducible refine zq2 (f:=12) rfl ?_);refine zq4 (some 21) rfl rfl Tryz.func12 zY2 rfl #[.string a0] rfl zY0 ?_;(with_reducible refine (impl_NoteGet.calls k a0 aT bG cd aX aY bA bb bp bq fo _ ?side1 A4.out).mono ?_);(case side1=>first|(with_reducible exact HG.out)|((with_reducible repeat (first|exact HG.out|apply GOKE.drewN|apply GOKE.drew));done)|exact GOKE.below HG.out zB);rintro e gv ⟨Oo,Oq,rfl,ar,cC,hb⟩;refine ⟨_,rfl,?_⟩;have go:=zA (Kd.z6 (Kd.R_new' ar (Kd.R_lt (by exact zr (Kd.z7 (zR9 fc (Kd.z10 eA.out br.out zY4) (.int .i64 b7) (.int .i64 cV) (.string dR) (.string cu) (.int .i64 b8) (.string bZ) (.string cB) (.slice dY cg.length db) (.slice dG cF.length dc)) (fun _ h_=>h_.1))))) (zq7 zB));replace eA:=zA (Kd.R_elder' (by exact zr (Kd.z7 (zR9 fc (Kd.z10 eA.out br.out zY4) (.int .i64 b7) (.int .i64 cV) (.string dR) (.string cu) (.int .i64 b8) (.string bZ) (.string cB) (.slice dY cg.length db) (.slice dG cF.length dc)) (fun _ h_=>h_.1))) (Kd.R_base ar) hb);have gp:=zA (Kd.z6 (Kd.R_new' cC (Kd.R_lt (by exact zr (Kd.z7 (zR9 fc (Kd.z10 eV.out br.out zY4) (.int .i64 b7) (.int .i64 cV) (.string dR) (.string cu) (.int .i64 b8) (.string bZ) (.string cB) (.slice dY cg.length db) (.slice dG cF.length dc)) (fun _ h_=>h_.1))))) (zq7 zB));replace eV:=zA (Kd.R_elder' (by exact zr (Kd.z7 (zR9 fc (Kd.z10 eV.out br.out zY4) (.int .i64 b7) (.int .i64 cV) (.string dR) (.string cu) (.int .i64 b8) (.string bZ) (.string cB) (.slice dY cg.length db) (.slice dG cF.length dc)) (fun _ h_=>h_.1))) (Kd.R_base cC) hb);replace br:=zA (zq1 (g:=fc) (o:=.cells #[.int .i64 b7,.int .i64 cV,.string dR,.string cu,.int .i64 b8,.string bZ,.string cB,.slice dY cg.length db,.slice dG cF.length dc] 30 (0,0)) (zG br.out) hb);replace HB:=zA (zq0 zB hb);clear hb ar cC)|((with_reducible refine zq5 (N:=5) rfl ?_);refine zE (N:=5) (cs:=#[.int .i64 0,.int .i64 0,.string bz0,.string bz0,.int .i64 0,.string bz0,.string bz0,.slice none 0 0,.slice none 0 0]) (t:=30) ?_;intro bQ hg gx hbox hb;replace eA:=zA (Kd.z2 (zVR eA.out) hb);replace eV:=zA (Kd.z2 (zVR eV.out) hb);replace go:=zA (Kd.z2 (zVR go.out) hb);replace gp:=zA (Kd.z2 (zVR gp.out) hb);have am:=zA hbox;have FH:=zA (zS hg:w.heap.size≤bQ);have FI:=zA (zS hg:w.heap.size≤bQ);replace HB:=zA (zq0 zB hb);have iR:=zA (zNlt hg (zK br.out):fc≠bQ);have iS:=zA (zNgt hg (zK br.out):bQ≠fc);replace br:=zA (zq1 (zK br.out) hb);clear hb hbox hg;have AJ:=iS.out;have AK:=iR.out;obtain ⟨pL,pM,pN,pO,pP,pQ,pR,pS,pT⟩:=zc9 am.out;obtain ⟨pU,pV,pW,pX,pY,pZ,qa,qb,qc⟩:=zf9 am.out;obtain ⟨bo,bi,wH⟩:=Kd.z9 go.out;subst wH;obtain ⟨bk,bc,mg⟩:=Kd.z9 gp.out;subst mg))
 (try simp only [Act.put,zL0,zL1,zL2])
 go_cut [32] (fun K1 wc=>∃ (kq:Nat) (sJ:Bool),K1=.bool sJ∧Aside0 (laws_FnExactNoteGet.j0 kq a0 cN sJ b7 cV dR cu b8 bZ cB cg cF aT bG cd aX aY bA bb bp bq=some r)∧Aside0 (kq≤k)∧Aside0 (Kd.R k24 24 wc w.heap.size (fun k_=>some k_≠((.slice bo bp.length bi):Value).ownBlock) (.slice dY cg.length db) cg)∧Aside0 (Kd.R Kd.string 9 wc w.heap.size (fun k_=>some k_≠((.slice bk bq.length bc):Value).ownBlock) (.slice dG cF.length dc) cF)∧Aside0 (Kd.R k24 24 wc w.heap.size (fun k_=>some k_≠((.slice dY cg.length db):Value).ownBlock) (.slice bo bp.length bi) bp)∧Aside0 (Kd.R Kd.string 9 wc w.heap.size (fun k_=>some k_≠((.slice dG cF.length dc):Value).ownBlock) (.slice bk bq.length bc) bq)∧Aside0 (wc.heap[fc]?=some (.cells #[.int .i64 b7,.int .i64 cV,.string dR,.string cu,.int .i64 b8,.string bZ,.string cB,(.slice dY cg.length db),(.slice dG cF.length dc)] 30 (0,0)))∧Aside0 (wc.heap[bQ]?=some (.cells #[.int .i64 aT,.int .i64 bG,.string cd,.string aX,.int .i64 aY,.string bA,.string bb,(.slice bo bp.length bi),(.slice bk bq.length bc)] 30 (0,0)))∧Aside0 (Below w.heap.size w wc))
 case first =>
  have H:=iy.out
  clear iy
  replace H:=Option.bind_eq_some_iff.mp H
  obtain ⟨cR,e8,H⟩:=H
  try dsimp only at H
  have et:=zA e8
  clear e8
  by_cases bK:cR=true
  ·subst bK
   rw [if_pos rfl] at H
   have H':=zA H
   clear H
   have Ot:=iS.out
   have Ou:=iR.out
   obtain ⟨Ce,Cf,Cg,Ch,Ci,Cj,Ck,Cl,Cm⟩:=zc9 am.out
   obtain ⟨Cn,Co,Cp,Cq,Cr,Cs,Ct,Cu,Cv⟩:=zf9 am.out
   obtain ⟨Cw,Cx,Cy,Cz,CA,CB,CD,CE,CF⟩:=zc9 br.out
   obtain ⟨CG,CH,CI,CJ,CK,CL,CM,CN,CO⟩:=zf9 br.out
   go_wp2_with (first|((with_reducible refine zq2 (f:=15) rfl ?_);refine zq4 (some 26) rfl rfl Tryz.func15 zY2 rfl #[.agg #[.int .i64 aT,.int .i64 bG,.string cd,.string aX,.int .i64 aY,.string bA,.string bb,.slice bo bp.length bi,.slice bk bq.length bc],.agg #[.int .i64 b7,.int .i64 cV,.string dR,.string cu,.int .i64 b8,.string bZ,.string cB,.slice dY cg.length db,.slice dG cF.length dc]] rfl zY0 ?_;(with_reducible refine (laws_eqNote.calls k aT bG cd aX aY bA bb _ _ bp _ _ bq b7 cV dR cu b8 bZ cB _ _ cg _ _ cF true _ ?side1 ?side2 ?side3 ?side4 ?side5 ?side6 ?side7 ?side8 et.out).mono ?_);(case side1=>refine (Kd.z8 (e:=24) (base:=w.heap.size) (ok:=fun k_=>(True∧some k_≠(.slice dY cg.length db:Value).ownBlock)) (n:=bp.length) (c:=bi) ?_).2.2;exact (by exact zr (Kd.z7 (zR9 bQ (Kd.z10 go.out am.out zY4) (.int .i64 aT) (.int .i64 bG) (.string cd) (.string aX) (.int .i64 aY) (.string bA) (.string bb) (.slice bo bp.length bi) (.slice bk bq.length bc)) (fun _ h_=>h_.1))));(case side2=>exact (Kd.z8 go.out).2.1);(case side3=>refine (Kd.z8 (e:=9) (base:=w.heap.size) (ok:=fun k_=>(True∧some k_≠(.slice dG cF.length dc:Value).ownBlock)) (n:=bq.length) (c:=bc) ?_).2.2;exact (by exact zr (Kd.z7 (zR9 bQ (Kd.z10 gp.out am.out zY4) (.int .i64 aT) (.int .i64 bG) (.string cd) (.string aX) (.int .i64 aY) (.string bA) (.string bb) (.slice bo bp.length bi) (.slice bk bq.length bc)) (fun _ h_=>h_.1))));(case side4=>exact (Kd.z8 gp.out).2.1);(case side5=>refine (Kd.z8 (e:=24) (base:=w.heap.size) (ok:=fun k_=>(True∧some k_≠(.slice bo bp.length bi:Value).ownBlock)) (n:=cg.length) (c:=db) ?_).2.2;exact (by exact zr (Kd.z7 (zR9 bQ (Kd.z10 eA.out am.out zY4) (.int .i64 aT) (.int .i64 bG) (.string cd) (.string aX) (.int .i64 aY) (.string bA) (.string bb) (.slice bo bp.length bi) (.slice bk bq.length bc)) (fun _ h_=>h_.1))));(case side6=>exact (Kd.z8 eA.out).2.1);(case side7=>refine (Kd.z8 (e:=9) (base:=w.heap.size) (ok:=fun k_=>(True∧some k_≠(.slice bk bq.length bc:Value).ownBlock)) (n:=cF.length) (c:=dc) ?_).2.2;exact (by exact zr (Kd.z7 (zR9 bQ (Kd.z10 eV.out am.out zY4) (.int .i64 aT) (.int .i64 bG) (.string cd) (.string aX) (.int .i64 aY) (.string bA) (.string bb) (.slice bo bp.length bi) (.slice bk bq.length bc)) (fun _ h_=>h_.1))));(case side8=>exact (Kd.z8 eV.out).2.1);rintro e qm ⟨rfl,hb⟩;refine ⟨_,rfl,?_⟩;replace eA:=zA (Kd.z2 (by exact zr (Kd.z7 (zR9 bQ (Kd.z10 eA.out am.out zY4) (.int .i64 aT) (.int .i64 bG) (.string cd) (.string aX) (.int .i64 aY) (.string bA) (.string bb) (.slice bo bp.length bi) (.slice bk bq.length bc)) (fun _ h_=>h_.1))) hb);replace eV:=zA (Kd.z2 (by exact zr (Kd.z7 (zR9 bQ (Kd.z10 eV.out am.out zY4) (.int .i64 aT) (.int .i64 bG) (.string cd) (.string aX) (.int .i64 aY) (.string bA) (.string bb) (.slice bo bp.length bi) (.slice bk bq.length bc)) (fun _ h_=>h_.1))) hb);replace go:=zA (Kd.z2 (by exact zr (Kd.z7 (zR9 bQ (Kd.z10 go.out am.out zY4) (.int .i64 aT) (.int .i64 bG) (.string cd) (.string aX) (.int .i64 aY) (.string bA) (.string bb) (.slice bo bp.length bi) (.slice bk bq.length bc)) (fun _ h_=>h_.1))) hb);replace gp:=zA (Kd.z2 (by exact zr (Kd.z7 (zR9 bQ (Kd.z10 gp.out am.out zY4) (.int .i64 aT) (.int .i64 bG) (.string cd) (.string aX) (.int .i64 aY) (.string bA) (.string bb) (.slice bo bp.length bi) (.slice bk bq.length bc)) (fun _ h_=>h_.1))) hb);replace br:=zA (zq1 (g:=fc) (o:=.cells #[.int .i64 b7,.int .i64 cV,.string dR,.string cu,.int .i64 b8,.string bZ,.string cB,.slice dY cg.length db,.slice dG cF.length dc] 30 (0,0)) (zG br.out) hb);replace am:=zA (zq1 (g:=bQ) (o:=.cells #[.int .i64 aT,.int .i64 bG,.string cd,.string aX,.int .i64 aY,.string bA,.string bb,.slice bo bp.length bi,.slice bk bq.length bc] 30 (0,0)) (zG am.out) hb);replace HB:=zA (zq0 zB hb);clear hb))
   go_meet
   case rel=>exact ⟨_,((fo != cN)),zY3,H',⟨by first|omega|exact Nat.le_refl _⟩,⟨by (with_reducible repeat (first|apply Kd.z1|apply Kd.z4|apply Kd.z3));exact Kd.z7 eA.out (fun _ hk=>hk.2)⟩,⟨by (with_reducible repeat (first|apply Kd.z1|apply Kd.z4|apply Kd.z3));exact Kd.z7 eV.out (fun _ hk=>hk.2)⟩,⟨by (with_reducible repeat (first|apply Kd.z1|apply Kd.z4|apply Kd.z3));exact Kd.z7 go.out (fun _ hk=>hk.2)⟩,⟨by (with_reducible repeat (first|apply Kd.z1|apply Kd.z4|apply Kd.z3));exact Kd.z7 gp.out (fun _ hk=>hk.2)⟩,⟨zK br.out⟩,⟨zK am.out⟩,⟨zB⟩⟩
  replace bK:=Bool.eq_false_iff.mpr bK
  subst bK
  rw [if_neg zfn] at H
  have H':=zA H
  clear H
  have Ov:=iS.out
  have Ow:=iR.out
  obtain ⟨CP,CQ,CR,CS,CT,CU,CV,CW,CX⟩:=zc9 am.out
  obtain ⟨CY,CZ,C0,C1,C2,C3,C4,C5,C6⟩:=zf9 am.out
  obtain ⟨o1,o2,o3,o4,o5,o6,o7,o8,o9⟩:=zc9 br.out
  obtain ⟨pa,pb,pc,pd,pf,pg,ph,pi,pj⟩:=zf9 br.out
  go_wp2_with (first|((with_reducible refine zq2 (f:=15) rfl ?_);refine zq4 (some 26) rfl rfl Tryz.func15 zY2 rfl #[.agg #[.int .i64 aT,.int .i64 bG,.string cd,.string aX,.int .i64 aY,.string bA,.string bb,.slice bo bp.length bi,.slice bk bq.length bc],.agg #[.int .i64 b7,.int .i64 cV,.string dR,.string cu,.int .i64 b8,.string bZ,.string cB,.slice dY cg.length db,.slice dG cF.length dc]] rfl zY0 ?_;(with_reducible refine (laws_eqNote.calls k aT bG cd aX aY bA bb _ _ bp _ _ bq b7 cV dR cu b8 bZ cB _ _ cg _ _ cF false _ ?side1 ?side2 ?side3 ?side4 ?side5 ?side6 ?side7 ?side8 et.out).mono ?_);(case side1=>refine (Kd.z8 (e:=24) (base:=w.heap.size) (ok:=fun k_=>(True∧some k_≠(.slice dY cg.length db:Value).ownBlock)) (n:=bp.length) (c:=bi) ?_).2.2;exact (by exact zr (Kd.z7 (zR9 bQ (Kd.z10 go.out am.out zY4) (.int .i64 aT) (.int .i64 bG) (.string cd) (.string aX) (.int .i64 aY) (.string bA) (.string bb) (.slice bo bp.length bi) (.slice bk bq.length bc)) (fun _ h_=>h_.1))));(case side2=>exact (Kd.z8 go.out).2.1);(case side3=>refine (Kd.z8 (e:=9) (base:=w.heap.size) (ok:=fun k_=>(True∧some k_≠(.slice dG cF.length dc:Value).ownBlock)) (n:=bq.length) (c:=bc) ?_).2.2;exact (by exact zr (Kd.z7 (zR9 bQ (Kd.z10 gp.out am.out zY4) (.int .i64 aT) (.int .i64 bG) (.string cd) (.string aX) (.int .i64 aY) (.string bA) (.string bb) (.slice bo bp.length bi) (.slice bk bq.length bc)) (fun _ h_=>h_.1))));(case side4=>exact (Kd.z8 gp.out).2.1);(case side5=>refine (Kd.z8 (e:=24) (base:=w.heap.size) (ok:=fun k_=>(True∧some k_≠(.slice bo bp.length bi:Value).ownBlock)) (n:=cg.length) (c:=db) ?_).2.2;exact (by exact zr (Kd.z7 (zR9 bQ (Kd.z10 eA.out am.out zY4) (.int .i64 aT) (.int .i64 bG) (.string cd) (.string aX) (.int .i64 aY) (.string bA) (.string bb) (.slice bo bp.length bi) (.slice bk bq.length bc)) (fun _ h_=>h_.1))));(case side6=>exact (Kd.z8 eA.out).2.1);(case side7=>refine (Kd.z8 (e:=9) (base:=w.heap.size) (ok:=fun k_=>(True∧some k_≠(.slice bk bq.length bc:Value).ownBlock)) (n:=cF.length) (c:=dc) ?_).2.2;exact (by exact zr (Kd.z7 (zR9 bQ (Kd.z10 eV.out am.out zY4) (.int .i64 aT) (.int .i64 bG) (.string cd) (.string aX) (.int .i64 aY) (.string bA) (.string bb) (.slice bo bp.length bi) (.slice bk bq.length bc)) (fun _ h_=>h_.1))));(case side8=>exact (Kd.z8 eV.out).2.1);rintro e za ⟨rfl,hb⟩;refine ⟨_,rfl,?_⟩;replace eA:=zA (Kd.z2 (by exact zr (Kd.z7 (zR9 bQ (Kd.z10 eA.out am.out zY4) (.int .i64 aT) (.int .i64 bG) (.string cd) (.string aX) (.int .i64 aY) (.string bA) (.string bb) (.slice bo bp.length bi) (.slice bk bq.length bc)) (fun _ h_=>h_.1))) hb);replace eV:=zA (Kd.z2 (by exact zr (Kd.z7 (zR9 bQ (Kd.z10 eV.out am.out zY4) (.int .i64 aT) (.int .i64 bG) (.string cd) (.string aX) (.int .i64 aY) (.string bA) (.string bb) (.slice bo bp.length bi) (.slice bk bq.length bc)) (fun _ h_=>h_.1))) hb);replace go:=zA (Kd.z2 (by exact zr (Kd.z7 (zR9 bQ (Kd.z10 go.out am.out zY4) (.int .i64 aT) (.int .i64 bG) (.string cd) (.string aX) (.int .i64 aY) (.string bA) (.string bb) (.slice bo bp.length bi) (.slice bk bq.length bc)) (fun _ h_=>h_.1))) hb);replace gp:=zA (Kd.z2 (by exact zr (Kd.z7 (zR9 bQ (Kd.z10 gp.out am.out zY4) (.int .i64 aT) (.int .i64 bG) (.string cd) (.string aX) (.int .i64 aY) (.string bA) (.string bb) (.slice bo bp.length bi) (.slice bk bq.length bc)) (fun _ h_=>h_.1))) hb);replace br:=zA (zq1 (g:=fc) (o:=.cells #[.int .i64 b7,.int .i64 cV,.string dR,.string cu,.int .i64 b8,.string bZ,.string cB,.slice dY cg.length db,.slice dG cF.length dc] 30 (0,0)) (zG br.out) hb);replace am:=zA (zq1 (g:=bQ) (o:=.cells #[.int .i64 aT,.int .i64 bG,.string cd,.string aX,.int .i64 aY,.string bA,.string bb,.slice bo bp.length bi,.slice bk bq.length bc] 30 (0,0)) (zG am.out) hb);replace HB:=zA (zq0 zB hb);clear hb))
  go_meet
  case rel=>exact ⟨_,(true),zY3,H',⟨by first|omega|exact Nat.le_refl _⟩,⟨by (with_reducible repeat (first|apply Kd.z1|apply Kd.z4|apply Kd.z3));exact Kd.z7 eA.out (fun _ hk=>hk.2)⟩,⟨by (with_reducible repeat (first|apply Kd.z1|apply Kd.z4|apply Kd.z3));exact Kd.z7 eV.out (fun _ hk=>hk.2)⟩,⟨by (with_reducible repeat (first|apply Kd.z1|apply Kd.z4|apply Kd.z3));exact Kd.z7 go.out (fun _ hk=>hk.2)⟩,⟨by (with_reducible repeat (first|apply Kd.z1|apply Kd.z4|apply Kd.z3));exact Kd.z7 gp.out (fun _ hk=>hk.2)⟩,⟨zK br.out⟩,⟨zK am.out⟩,⟨zB⟩⟩
 case rest =>
  clear iy
  try clear c1
  try clear c2
  try clear c2b0
  try clear c2b1
  try clear p2
  try clear c4
  try clear bH
  try clear bj
  try clear bB
  try clear bW
  try clear bK
  try clear cL
  try clear g5
  try clear pL pM pN pO pP pQ pR pS pT
  try clear Ce Cf Cg Ch Ci Cj Ck Cl Cm
  try clear Cw Cx Cy Cz CA CB CD CE CF
  try clear CP CQ CR CS CT CU CV CW CX
  try clear o1 o2 o3 o4 o5 o6 o7 o8 o9
  try clear qt qu qv qw BY BZ B0 B1 B2
  try clear pU pV pW pX pY pZ qa qb qc
  try clear Cn Co Cp Cq Cr Cs Ct Cu Cv
  try clear CG CH CI CJ CK CL CM CN CO
  try clear CY CZ C0 C1 C2 C3 C4 C5 C6
  try clear pa pb pc pd pf pg ph pi pj
  try clear qx qy qz qA B9 Ca Cb Cc Cd
  obtain ⟨kq,sJ,rfl,HA,HJ4,cT,cU,bC,bD,br,am,HB⟩:=hcut
  cases kq with
  | zero=>exact absurd HA.out (by simp [laws_FnExactNoteGet.j0])
  | succ kj4 =>
   have H:=HA.out
   clear HA
   simp only [laws_FnExactNoteGet.j0] at H
   by_cases eU:sJ=true
   ·subst eU
    rw [if_pos rfl] at H
    obtain rfl:=Option.some.inj H
    go_wp2
    go_ret
    exact ⟨zT,zB⟩
   replace eU:=Bool.eq_false_iff.mpr eU
   subst eU
   rw [if_neg zfn] at H
   replace H:=Option.bind_eq_some_iff.mp H
   obtain ⟨⟨gT,d5,eO⟩,C7,H⟩:=H
   try dsimp only at H
   have yq:=zA C7
   clear C7
   replace H:=Option.bind_eq_some_iff.mp H
   obtain ⟨aA,qe,H⟩:=H
   try dsimp only at H
   have mr:=zA qe
   clear qe
   by_cases fm:aA < 0
   ·rw [if_pos fm] at H
    have c30b0:decide (aA < 0)=true:=decide_eq_true fm
    clear fm
    obtain rfl:=Option.some.inj H
    have Ep:=iS.out
    have Er:=iR.out
    obtain ⟨K2,K3,K4,K5,K6,K7,K8,K9,La⟩:=zc9 am.out
    obtain ⟨Lb,Lc,Ld,Le,Lf,Lg,Lh,Li,Lj⟩:=zf9 am.out
    go_wp2_with (first|((with_reducible refine zq2 (f:=16) rfl ?_);refine zq4 (some 35) rfl rfl Tryz.func16 zY2 rfl #[.agg #[.int .i64 aT,.int .i64 bG,.string cd,.string aX,.int .i64 aY,.string bA,.string bb,.slice bo bp.length bi,.slice bk bq.length bc],.int .i64 1] rfl zY0 ?_;(with_reducible refine (laws_markNote.calls kj4 aT bG cd aX aY bA bb (fun k_=>some k_=(.slice bo bp.length bi:Value).ownBlock) (.slice bo bp.length bi) bp (fun k_=>some k_=(.slice bk bq.length bc:Value).ownBlock) (.slice bk bq.length bc) bq 1 gT d5 eO w _ ?side1 ?side2 ?side3 yq.out).mono ?_);(case side1=>exact zB);(case side2=>exact Kd.R_tight rfl bC.out);(case side3=>exact Kd.R_tight rfl bD.out);rintro e eR ⟨rfl,fW,iO,hb,hkp⟩;refine ⟨_,rfl,?_⟩;replace cT:=zA (Kd.z7 (ok':=fun k_=>some k_≠(.slice bo bp.length bi:Value).ownBlock) (Kd.R_keptB ((Kd.R_apart' cT.out (Kd.R_typed bD.out) zY4)) hkp (fun k_ hk_ hs_=>Or.elim hs_ (fun e_=>(hk_.1) e_) (fun e_=>(hk_.2) e_))) (fun k_ hk_=>hk_.1.1));replace cU:=zA (Kd.z7 (ok':=fun k_=>some k_≠(.slice bk bq.length bc:Value).ownBlock) (Kd.R_keptB ((Kd.R_apart' cU.out (Kd.R_typed bC.out) zY4)) hkp (fun k_ hk_ hs_=>Or.elim hs_ (fun e_=>(hk_.2) e_) (fun e_=>(hk_.1) e_))) (fun k_ hk_=>hk_.1.1));replace br:=zA (blk_kept (zK br.out) hkp (fun hs_=>Or.elim hs_ (fun e_=>(fun e_=>(Kd.R_ne bC.out br.out zY4) e_) e_) (fun e_=>(fun e_=>(Kd.R_ne bD.out br.out zY4) e_) e_)));replace am:=zA (blk_kept (zK am.out) hkp (fun hs_=>Or.elim hs_ (fun e_=>(fun e_=>(Kd.R_ne bC.out am.out zY4) e_) e_) (fun e_=>(fun e_=>(Kd.R_ne bD.out am.out zY4) e_) e_)));replace bC:=zA (Kd.R_reok rfl fW (fun k_ e_=>bC.out.1 k_ e_));replace bD:=zA (Kd.R_reok rfl iO (fun k_ e_=>bD.out.1 k_ e_));replace HB:=zA (hb);clear hb hkp fW iO;obtain ⟨rk,rl,rm,rn,ro,rp,rq,rr,rt⟩:=zc9 am.out;obtain ⟨ru,rv,rx,ry,rz,rA,rB,rC,rD⟩:=zf9 am.out)|((with_reducible refine zq2 (f:=17) rfl ?_);refine zq4 (some 38) rfl rfl Tryz.func17 zY2 rfl #[.agg #[.int .i64 aT,.int .i64 bG,.string cd,.string aX,.int .i64 aY,.string bA,.string bb,.slice bo d5.length bi,.slice bk eO.length bc],.int .i64 1] rfl zY16 ?_;(with_reducible refine (laws_heldNote.calls kj4 aT bG cd aX aY bA bb _ _ d5 _ _ eO 1 aA _ ?side1 ?side2 ?side3 ?side4 mr.out).mono ?_);(case side1=>exact zC (Kd.z8 bC.out).2.2);(case side2=>rw [show d5.length=bp.length from (Kd.z8 bC.out).1.symm];exact (Kd.z8 bC.out).2.1);(case side3=>exact zC (Kd.z8 bD.out).2.2);(case side4=>rw [show eO.length=bq.length from (Kd.z8 bD.out).1.symm];exact (Kd.z8 bD.out).2.1);rintro e mN ⟨rfl,hb⟩;refine ⟨_,rfl,?_⟩;replace cT:=zA (Kd.z2 (zVR cT.out) hb);replace cU:=zA (Kd.z2 (zVR cU.out) hb);replace bC:=zA (Kd.z2 (zVR bC.out) hb);replace bD:=zA (Kd.z2 (zVR bD.out) hb);replace br:=zA (zq1 (zK br.out) hb);replace am:=zA (zq1 (zK am.out) hb);replace HB:=zA (zq0 zB hb);clear hb))
    go_ret
    exact ⟨zT,zB⟩
   rw [if_neg fm] at H
   have c30b0:decide (aA < 0)=false:=decide_eq_false fm
   clear fm
   by_cases gj:aA=gT
   rotate_left
   ·rw [if_neg gj] at H
    have c36b0:(aA==gT)=false:=beq_eq_false_iff_ne.mpr gj
    have c36b1:(aA != gT)=true:=bne_iff_ne.mpr gj
    obtain rfl:=Option.some.inj H
    have Ox:=iS.out
    have Oy:=iR.out
    obtain ⟨_,_,_,_,_,_,_,_,_⟩:=zc9 am.out
    obtain ⟨_,_,_,_,_,_,_,_,_⟩:=zf9 am.out
    go_wp2_with (first|((with_reducible refine zq2 (f:=16) rfl ?_);refine zq4 (some 35) rfl rfl Tryz.func16 zY2 rfl #[.agg #[.int .i64 aT,.int .i64 bG,.string cd,.string aX,.int .i64 aY,.string bA,.string bb,.slice bo bp.length bi,.slice bk bq.length bc],.int .i64 1] rfl zY0 ?_;(with_reducible refine (laws_markNote.calls kj4 aT bG cd aX aY bA bb (fun k_=>some k_=(.slice bo bp.length bi:Value).ownBlock) (.slice bo bp.length bi) bp (fun k_=>some k_=(.slice bk bq.length bc:Value).ownBlock) (.slice bk bq.length bc) bq 1 gT d5 eO w _ ?side1 ?side2 ?side3 yq.out).mono ?_);(case side1=>exact zB);(case side2=>exact Kd.R_tight rfl bC.out);(case side3=>exact Kd.R_tight rfl bD.out);rintro e Oz ⟨rfl,fW,iO,hb,hkp⟩;refine ⟨_,rfl,?_⟩;replace cT:=zA (Kd.z7 (ok':=fun k_=>some k_≠(.slice bo bp.length bi:Value).ownBlock) (Kd.R_keptB ((Kd.R_apart' cT.out (Kd.R_typed bD.out) zY4)) hkp (fun k_ hk_ hs_=>Or.elim hs_ (fun e_=>(hk_.1) e_) (fun e_=>(hk_.2) e_))) (fun k_ hk_=>hk_.1.1));replace cU:=zA (Kd.z7 (ok':=fun k_=>some k_≠(.slice bk bq.length bc:Value).ownBlock) (Kd.R_keptB ((Kd.R_apart' cU.out (Kd.R_typed bC.out) zY4)) hkp (fun k_ hk_ hs_=>Or.elim hs_ (fun e_=>(hk_.2) e_) (fun e_=>(hk_.1) e_))) (fun k_ hk_=>hk_.1.1));replace br:=zA (blk_kept (zK br.out) hkp (fun hs_=>Or.elim hs_ (fun e_=>(fun e_=>(Kd.R_ne bC.out br.out zY4) e_) e_) (fun e_=>(fun e_=>(Kd.R_ne bD.out br.out zY4) e_) e_)));replace am:=zA (blk_kept (zK am.out) hkp (fun hs_=>Or.elim hs_ (fun e_=>(fun e_=>(Kd.R_ne bC.out am.out zY4) e_) e_) (fun e_=>(fun e_=>(Kd.R_ne bD.out am.out zY4) e_) e_)));replace bC:=zA (Kd.R_reok rfl fW (fun k_ e_=>bC.out.1 k_ e_));replace bD:=zA (Kd.R_reok rfl iO (fun k_ e_=>bD.out.1 k_ e_));replace HB:=zA (hb);clear hb hkp fW iO;obtain ⟨_,_,_,_,_,_,_,_,_⟩:=zc9 am.out;obtain ⟨_,_,_,_,_,_,_,_,_⟩:=zf9 am.out)|((with_reducible refine zq2 (f:=17) rfl ?_);refine zq4 (some 38) rfl rfl Tryz.func17 zY2 rfl #[.agg #[.int .i64 aT,.int .i64 bG,.string cd,.string aX,.int .i64 aY,.string bA,.string bb,.slice bo d5.length bi,.slice bk eO.length bc],.int .i64 1] rfl zY16 ?_;(with_reducible refine (laws_heldNote.calls kj4 aT bG cd aX aY bA bb _ _ d5 _ _ eO 1 aA _ ?side1 ?side2 ?side3 ?side4 mr.out).mono ?_);(case side1=>exact zC (Kd.z8 bC.out).2.2);(case side2=>rw [show d5.length=bp.length from (Kd.z8 bC.out).1.symm];exact (Kd.z8 bC.out).2.1);(case side3=>exact zC (Kd.z8 bD.out).2.2);(case side4=>rw [show eO.length=bq.length from (Kd.z8 bD.out).1.symm];exact (Kd.z8 bD.out).2.1);rintro e OA ⟨rfl,hb⟩;refine ⟨_,rfl,?_⟩;replace cT:=zA (Kd.z2 (zVR cT.out) hb);replace cU:=zA (Kd.z2 (zVR cU.out) hb);replace bC:=zA (Kd.z2 (zVR bC.out) hb);replace bD:=zA (Kd.z2 (zVR bD.out) hb);replace br:=zA (zq1 (zK br.out) hb);replace am:=zA (zq1 (zK am.out) hb);replace HB:=zA (zq0 zB hb);clear hb))
    go_ret
    exact ⟨zT,zB⟩
   rw [if_pos gj] at H
   have c36b0:(aA==gT)=true:=beq_iff_eq.mpr gj
   have c36b1:(aA != gT)=false:=bne_eq_false_iff_eq.mpr gj
   clear gj
   replace H:=Option.bind_eq_some_iff.mp H
   obtain ⟨⟨cZ,aG,dA,dB,dC,bm,cK,cb,cw,st⟩,C8,H⟩:=H
   try dsimp only at H
   have Lk:=zA C8
   clear C8
   have yr:=zA H
   clear H
   have zm:=iS.out
   have zo:=iR.out
   obtain ⟨oq,ot,ou,ov,xD,xE,xF,xG,xH⟩:=zc9 am.out
   obtain ⟨ow,ox,oy,oz,xI,xJ,xK,xL,xM⟩:=zf9 am.out
   go_upto_region 16 with (first|((with_reducible refine zq2 (f:=16) rfl ?_);refine zq4 (some 35) rfl rfl Tryz.func16 zY2 rfl #[.agg #[.int .i64 aT,.int .i64 bG,.string cd,.string aX,.int .i64 aY,.string bA,.string bb,.slice bo bp.length bi,.slice bk bq.length bc],.int .i64 1] rfl zY0 ?_;(with_reducible refine (laws_markNote.calls kj4 aT bG cd aX aY bA bb (fun k_=>some k_=(.slice bo bp.length bi:Value).ownBlock) (.slice bo bp.length bi) bp (fun k_=>some k_=(.slice bk bq.length bc:Value).ownBlock) (.slice bk bq.length bc) bq 1 gT d5 eO w _ ?side1 ?side2 ?side3 yq.out).mono ?_);(case side1=>exact zB);(case side2=>exact Kd.R_tight rfl bC.out);(case side3=>exact Kd.R_tight rfl bD.out);rintro e le ⟨rfl,fW,iO,hb,hkp⟩;refine ⟨_,rfl,?_⟩;replace cT:=zA (Kd.z7 (ok':=fun k_=>some k_≠(.slice bo bp.length bi:Value).ownBlock) (Kd.R_keptB ((Kd.R_apart' cT.out (Kd.R_typed bD.out) zY4)) hkp (fun k_ hk_ hs_=>Or.elim hs_ (fun e_=>(hk_.1) e_) (fun e_=>(hk_.2) e_))) (fun k_ hk_=>hk_.1.1));replace cU:=zA (Kd.z7 (ok':=fun k_=>some k_≠(.slice bk bq.length bc:Value).ownBlock) (Kd.R_keptB ((Kd.R_apart' cU.out (Kd.R_typed bC.out) zY4)) hkp (fun k_ hk_ hs_=>Or.elim hs_ (fun e_=>(hk_.2) e_) (fun e_=>(hk_.1) e_))) (fun k_ hk_=>hk_.1.1));replace br:=zA (blk_kept (zK br.out) hkp (fun hs_=>Or.elim hs_ (fun e_=>(fun e_=>(Kd.R_ne bC.out br.out zY4) e_) e_) (fun e_=>(fun e_=>(Kd.R_ne bD.out br.out zY4) e_) e_)));replace am:=zA (blk_kept (zK am.out) hkp (fun hs_=>Or.elim hs_ (fun e_=>(fun e_=>(Kd.R_ne bC.out am.out zY4) e_) e_) (fun e_=>(fun e_=>(Kd.R_ne bD.out am.out zY4) e_) e_)));replace bC:=zA (Kd.R_reok rfl fW (fun k_ e_=>bC.out.1 k_ e_));replace bD:=zA (Kd.R_reok rfl iO (fun k_ e_=>bD.out.1 k_ e_));replace HB:=zA (hb);clear hb hkp fW iO;obtain ⟨xN,xO,xP,xQ,xR,xS,xT,xU,xV⟩:=zc9 am.out;obtain ⟨xW,xX,xY,xZ,ya,yb,yc,yd,ye⟩:=zf9 am.out)|((with_reducible refine zq2 (f:=17) rfl ?_);refine zq4 (some 38) rfl rfl Tryz.func17 zY2 rfl #[.agg #[.int .i64 aT,.int .i64 bG,.string cd,.string aX,.int .i64 aY,.string bA,.string bb,.slice bo d5.length bi,.slice bk eO.length bc],.int .i64 1] rfl zY16 ?_;(with_reducible refine (laws_heldNote.calls kj4 aT bG cd aX aY bA bb _ _ d5 _ _ eO 1 aA _ ?side1 ?side2 ?side3 ?side4 mr.out).mono ?_);(case side1=>exact zC (Kd.z8 bC.out).2.2);(case side2=>rw [show d5.length=bp.length from (Kd.z8 bC.out).1.symm];exact (Kd.z8 bC.out).2.1);(case side3=>exact zC (Kd.z8 bD.out).2.2);(case side4=>rw [show eO.length=bq.length from (Kd.z8 bD.out).1.symm];exact (Kd.z8 bD.out).2.1);rintro e mF ⟨rfl,hb⟩;refine ⟨_,rfl,?_⟩;replace cT:=zA (Kd.z2 (zVR cT.out) hb);replace cU:=zA (Kd.z2 (zVR cU.out) hb);replace bC:=zA (Kd.z2 (zVR bC.out) hb);replace bD:=zA (Kd.z2 (zVR bD.out) hb);replace br:=zA (zq1 (zK br.out) hb);replace am:=zA (zq1 (zK am.out) hb);replace HB:=zA (zq0 zB hb);clear hb)|((with_reducible refine zq2 (f:=12) rfl ?_);refine zq4 (some 46) rfl rfl Tryz.func12 zY2 rfl #[.string a0] rfl zY0 ?_;(with_reducible refine (impl_NoteGet.calls kj4 a0 cZ aG dA dB dC bm cK cb cw st _ ?side1 Lk.out).mono ?_);(case side1=>first|(with_reducible exact HG.out)|((with_reducible repeat (first|exact HG.out|apply GOKE.drewN|apply GOKE.drew));done)|exact GOKE.below HG.out zB);rintro e uq ⟨OB,OC,rfl,ar,cC,hb⟩;refine ⟨_,rfl,?_⟩;have gq:=zA (Kd.z6 (Kd.R_new' (Kd.R_new' ar (Kd.R_lt (zVR cT.out))) (Kd.R_lt (zVR bC.out))) (zq7 zB));replace cT:=zA (Kd.R_elder' (zVR cT.out) (Kd.R_base ar) hb);replace bC:=zA (Kd.R_elder' (zVR bC.out) (Kd.R_base ar) hb);have gr:=zA (Kd.z6 (Kd.R_new' (Kd.R_new' cC (Kd.R_lt (zVR cU.out))) (Kd.R_lt (zVR bD.out))) (zq7 zB));replace cU:=zA (Kd.R_elder' (zVR cU.out) (Kd.R_base cC) hb);replace bD:=zA (Kd.R_elder' (zVR bD.out) (Kd.R_base cC) hb);replace br:=zA (zq1 (zK br.out) hb);replace am:=zA (zq1 (zK am.out) hb);replace HB:=zA (zq0 zB hb);clear hb ar cC)|((with_reducible refine zq5 (N:=9) rfl ?_);refine zE (N:=9) (cs:=#[.int .i64 0,.int .i64 0,.string bz0,.string bz0,.int .i64 0,.string bz0,.string bz0,.slice none 0 0,.slice none 0 0]) (t:=30) ?_;intro df hg sQ hbox hb;replace cT:=zA (Kd.z2 (zVR cT.out) hb);replace cU:=zA (Kd.z2 (zVR cU.out) hb);replace bC:=zA (Kd.z2 (zVR bC.out) hb);replace bD:=zA (Kd.z2 (zVR bD.out) hb);replace gq:=zA (Kd.z2 (zVR gq.out) hb);replace gr:=zA (Kd.z2 (zVR gr.out) hb);have cq:=zA hbox;have OD:=zA (zS hg:w.heap.size≤df);have OE:=zA (zS hg:w.heap.size≤df);replace HB:=zA (zq0 zB hb);have yt:=zA (zNlt hg (zK br.out):fc≠df);have yu:=zA (zNgt hg (zK br.out):df≠fc);replace br:=zA (zq1 (zK br.out) hb);have no:=zA (zNlt hg (zK am.out):bQ≠df);have np:=zA (zNgt hg (zK am.out):df≠bQ);replace am:=zA (zq1 (zK am.out) hb);clear hb hbox hg;have Ax:=yu.out;have Ay:=yt.out;have OF:=np.out;have OG:=no.out;obtain ⟨Ll,Lm,Ln,Lo,Lp,Lq,Lr,Ls,Lt⟩:=zc9 cq.out;obtain ⟨Lu,Lv,Lw,Lx,Ly,Lz,LA,LB,LC⟩:=zf9 cq.out;obtain ⟨ct,cj,wV⟩:=Kd.z9 gq.out;subst wV;obtain ⟨da,cO,LD⟩:=Kd.z9 gr.out;subst LD))
   (try simp only [Act.put,zL0,zL1,zL2])
   go_cut [57] (fun LE wc=>∃ (kq:Nat) (sK:Bool),LE=.bool sK∧Aside0 (laws_FnExactNoteGet.j1 kq gT sK aT bG cd aX aY bA bb d5 eO=some r)∧Aside0 (kq≤kj4)∧Aside0 (Kd.R k24 24 wc w.heap.size (fun k_=>some k_≠((.slice bo bp.length bi):Value).ownBlock∧some k_≠((.slice ct cb.length cj):Value).ownBlock) (.slice dY cg.length db) cg)∧Aside0 (Kd.R Kd.string 9 wc w.heap.size (fun k_=>some k_≠((.slice bk bq.length bc):Value).ownBlock∧some k_≠((.slice da cw.length cO):Value).ownBlock) (.slice dG cF.length dc) cF)∧Aside0 (Kd.R k24 24 wc w.heap.size (fun k_=>some k_≠((.slice dY cg.length db):Value).ownBlock∧some k_≠((.slice ct cb.length cj):Value).ownBlock) (.slice bo bp.length bi) d5)∧Aside0 (Kd.R Kd.string 9 wc w.heap.size (fun k_=>some k_≠((.slice dG cF.length dc):Value).ownBlock∧some k_≠((.slice da cw.length cO):Value).ownBlock) (.slice bk bq.length bc) eO)∧Aside0 (Kd.R k24 24 wc w.heap.size (fun k_=>some k_≠((.slice dY cg.length db):Value).ownBlock∧some k_≠((.slice bo bp.length bi):Value).ownBlock) (.slice ct cb.length cj) cb)∧Aside0 (Kd.R Kd.string 9 wc w.heap.size (fun k_=>some k_≠((.slice dG cF.length dc):Value).ownBlock∧some k_≠((.slice bk bq.length bc):Value).ownBlock) (.slice da cw.length cO) cw)∧Aside0 (wc.heap[fc]?=some (.cells #[.int .i64 b7,.int .i64 cV,.string dR,.string cu,.int .i64 b8,.string bZ,.string cB,(.slice dY cg.length db),(.slice dG cF.length dc)] 30 (0,0)))∧Aside0 (wc.heap[bQ]?=some (.cells #[.int .i64 aT,.int .i64 bG,.string cd,.string aX,.int .i64 aY,.string bA,.string bb,(.slice bo bp.length bi),(.slice bk bq.length bc)] 30 (0,0)))∧Aside0 (wc.heap[df]?=some (.cells #[.int .i64 cZ,.int .i64 aG,.string dA,.string dB,.int .i64 dC,.string bm,.string cK,(.slice ct cb.length cj),(.slice da cw.length cO)] 30 (0,0)))∧Aside0 (Below w.heap.size w wc))
   case first =>
    have H:=yr.out
    clear yr
    replace H:=Option.bind_eq_some_iff.mp H
    obtain ⟨kZ,nU,H⟩:=H
    try dsimp only at H
    have nV:=zA nU
    clear nU
    by_cases gA:kZ=true
    ·subst gA
     rw [if_pos rfl] at H
     have H':=zA H
     clear H
     have OH:=yu.out
     have OI:=yt.out
     have OJ:=np.out
     have OK:=no.out
     obtain ⟨vY,vZ,wa,wb,wd,we,wg,wh,wi⟩:=zc9 cq.out
     obtain ⟨wj,wk,wl,wm,wn,wo,wq,ws,wt⟩:=zf9 cq.out
     have Fg:=iR.out
     have Fh:=iS.out
     obtain ⟨LF,LG,LH,LI,LJ,LK,LM,LN,LO⟩:=zc9 br.out
     obtain ⟨LP,LQ,LR,LS,LT,LU,LV,LW,LX⟩:=zf9 br.out
     go_wp2_with (first|((with_reducible refine zq2 (f:=15) rfl ?_);refine zq4 (some 51) rfl rfl Tryz.func15 zY2 rfl #[.agg #[.int .i64 cZ,.int .i64 aG,.string dA,.string dB,.int .i64 dC,.string bm,.string cK,.slice ct cb.length cj,.slice da cw.length cO],.agg #[.int .i64 b7,.int .i64 cV,.string dR,.string cu,.int .i64 b8,.string bZ,.string cB,.slice dY cg.length db,.slice dG cF.length dc]] rfl zY0 ?_;(with_reducible refine (laws_eqNote.calls kj4 cZ aG dA dB dC bm cK _ _ cb _ _ cw b7 cV dR cu b8 bZ cB _ _ cg _ _ cF true _ ?side1 ?side2 ?side3 ?side4 ?side5 ?side6 ?side7 ?side8 nV.out).mono ?_);(case side1=>refine (Kd.z8 (e:=24) (base:=w.heap.size) (ok:=fun k_=>((True∧some k_≠(.slice dY cg.length db:Value).ownBlock)∧some k_≠(.slice bo bp.length bi:Value).ownBlock)) (n:=cb.length) (c:=cj) ?_).2.2;exact (by exact zr (Kd.z7 (zR9 df (Kd.z10 gq.out cq.out zY4) (.int .i64 cZ) (.int .i64 aG) (.string dA) (.string dB) (.int .i64 dC) (.string bm) (.string cK) (.slice ct cb.length cj) (.slice da cw.length cO)) (fun _ h_=>h_.1))));(case side2=>exact (Kd.z8 gq.out).2.1);(case side3=>refine (Kd.z8 (e:=9) (base:=w.heap.size) (ok:=fun k_=>((True∧some k_≠(.slice dG cF.length dc:Value).ownBlock)∧some k_≠(.slice bk bq.length bc:Value).ownBlock)) (n:=cw.length) (c:=cO) ?_).2.2;exact (by exact zr (Kd.z7 (zR9 df (Kd.z10 gr.out cq.out zY4) (.int .i64 cZ) (.int .i64 aG) (.string dA) (.string dB) (.int .i64 dC) (.string bm) (.string cK) (.slice ct cb.length cj) (.slice da cw.length cO)) (fun _ h_=>h_.1))));(case side4=>exact (Kd.z8 gr.out).2.1);(case side5=>refine (Kd.z8 (e:=24) (base:=w.heap.size) (ok:=fun k_=>(some k_≠(.slice bo bp.length bi:Value).ownBlock∧some k_≠(.slice ct cb.length cj:Value).ownBlock)) (n:=cg.length) (c:=db) ?_).2.2;exact (by exact zr (Kd.z7 (zR9 df (Kd.z10 cT.out cq.out zY4) (.int .i64 cZ) (.int .i64 aG) (.string dA) (.string dB) (.int .i64 dC) (.string bm) (.string cK) (.slice ct cb.length cj) (.slice da cw.length cO)) (fun _ h_=>h_.1))));(case side6=>exact (Kd.z8 cT.out).2.1);(case side7=>refine (Kd.z8 (e:=9) (base:=w.heap.size) (ok:=fun k_=>(some k_≠(.slice bk bq.length bc:Value).ownBlock∧some k_≠(.slice da cw.length cO:Value).ownBlock)) (n:=cF.length) (c:=dc) ?_).2.2;exact (by exact zr (Kd.z7 (zR9 df (Kd.z10 cU.out cq.out zY4) (.int .i64 cZ) (.int .i64 aG) (.string dA) (.string dB) (.int .i64 dC) (.string bm) (.string cK) (.slice ct cb.length cj) (.slice da cw.length cO)) (fun _ h_=>h_.1))));(case side8=>exact (Kd.z8 cU.out).2.1);rintro e yY ⟨rfl,hb⟩;refine ⟨_,rfl,?_⟩;replace cT:=zA (Kd.z2 (by exact zr (Kd.z7 (zR9 df (Kd.z10 cT.out cq.out zY4) (.int .i64 cZ) (.int .i64 aG) (.string dA) (.string dB) (.int .i64 dC) (.string bm) (.string cK) (.slice ct cb.length cj) (.slice da cw.length cO)) (fun _ h_=>h_.1))) hb);replace cU:=zA (Kd.z2 (by exact zr (Kd.z7 (zR9 df (Kd.z10 cU.out cq.out zY4) (.int .i64 cZ) (.int .i64 aG) (.string dA) (.string dB) (.int .i64 dC) (.string bm) (.string cK) (.slice ct cb.length cj) (.slice da cw.length cO)) (fun _ h_=>h_.1))) hb);replace bC:=zA (Kd.z2 (by exact zr (Kd.z7 (zR9 df (Kd.z10 bC.out cq.out zY4) (.int .i64 cZ) (.int .i64 aG) (.string dA) (.string dB) (.int .i64 dC) (.string bm) (.string cK) (.slice ct cb.length cj) (.slice da cw.length cO)) (fun _ h_=>h_.1))) hb);replace bD:=zA (Kd.z2 (by exact zr (Kd.z7 (zR9 df (Kd.z10 bD.out cq.out zY4) (.int .i64 cZ) (.int .i64 aG) (.string dA) (.string dB) (.int .i64 dC) (.string bm) (.string cK) (.slice ct cb.length cj) (.slice da cw.length cO)) (fun _ h_=>h_.1))) hb);replace gq:=zA (Kd.z2 (by exact zr (Kd.z7 (zR9 df (Kd.z10 gq.out cq.out zY4) (.int .i64 cZ) (.int .i64 aG) (.string dA) (.string dB) (.int .i64 dC) (.string bm) (.string cK) (.slice ct cb.length cj) (.slice da cw.length cO)) (fun _ h_=>h_.1))) hb);replace gr:=zA (Kd.z2 (by exact zr (Kd.z7 (zR9 df (Kd.z10 gr.out cq.out zY4) (.int .i64 cZ) (.int .i64 aG) (.string dA) (.string dB) (.int .i64 dC) (.string bm) (.string cK) (.slice ct cb.length cj) (.slice da cw.length cO)) (fun _ h_=>h_.1))) hb);replace br:=zA (zq1 (g:=fc) (o:=.cells #[.int .i64 b7,.int .i64 cV,.string dR,.string cu,.int .i64 b8,.string bZ,.string cB,.slice dY cg.length db,.slice dG cF.length dc] 30 (0,0)) (zG br.out) hb);replace am:=zA (zq1 (g:=bQ) (o:=.cells #[.int .i64 aT,.int .i64 bG,.string cd,.string aX,.int .i64 aY,.string bA,.string bb,.slice bo bp.length bi,.slice bk bq.length bc] 30 (0,0)) (zG am.out) hb);replace cq:=zA (zq1 (g:=df) (o:=.cells #[.int .i64 cZ,.int .i64 aG,.string dA,.string dB,.int .i64 dC,.string bm,.string cK,.slice ct cb.length cj,.slice da cw.length cO] 30 (0,0)) (zG cq.out) hb);replace HB:=zA (zq0 zB hb);clear hb))
     go_meet
     case rel=>exact ⟨_,((st != cN)),zY3,H',⟨by have:=HJ4.out;first|omega|exact Nat.le_refl _⟩,⟨zVR cT.out⟩,⟨zVR cU.out⟩,⟨zVR bC.out⟩,⟨zVR bD.out⟩,⟨by (with_reducible repeat (first|apply Kd.z1|apply Kd.z4|apply Kd.z3));exact Kd.z7 gq.out (fun _ hk=>⟨hk.1.2,hk.2⟩)⟩,⟨by (with_reducible repeat (first|apply Kd.z1|apply Kd.z4|apply Kd.z3));exact Kd.z7 gr.out (fun _ hk=>⟨hk.1.2,hk.2⟩)⟩,⟨zK br.out⟩,⟨zK am.out⟩,⟨zK cq.out⟩,⟨zB⟩⟩
    replace gA:=Bool.eq_false_iff.mpr gA
    subst gA
    rw [if_neg zfn] at H
    have H':=zA H
    clear H
    have It:=yu.out
    have Iu:=yt.out
    have OL:=np.out
    have OM:=no.out
    obtain ⟨LY,LZ,L0,L1,L3,L4,L5,L6,L7⟩:=zc9 cq.out
    obtain ⟨L8,L9,Ma,Mb,Mc,Md,Me,Mf,Mg⟩:=zf9 cq.out
    have ON:=iR.out
    have OO:=iS.out
    obtain ⟨xi,xj,xk,xl,xm,xn,xo,xp,xq⟩:=zc9 br.out
    obtain ⟨xr,xt,xu,xv,xw,xx,xy,xz,xA⟩:=zf9 br.out
    go_wp2_with (first|((with_reducible refine zq2 (f:=15) rfl ?_);refine zq4 (some 51) rfl rfl Tryz.func15 zY2 rfl #[.agg #[.int .i64 cZ,.int .i64 aG,.string dA,.string dB,.int .i64 dC,.string bm,.string cK,.slice ct cb.length cj,.slice da cw.length cO],.agg #[.int .i64 b7,.int .i64 cV,.string dR,.string cu,.int .i64 b8,.string bZ,.string cB,.slice dY cg.length db,.slice dG cF.length dc]] rfl zY0 ?_;(with_reducible refine (laws_eqNote.calls kj4 cZ aG dA dB dC bm cK _ _ cb _ _ cw b7 cV dR cu b8 bZ cB _ _ cg _ _ cF false _ ?side1 ?side2 ?side3 ?side4 ?side5 ?side6 ?side7 ?side8 nV.out).mono ?_);(case side1=>refine (Kd.z8 (e:=24) (base:=w.heap.size) (ok:=fun k_=>((True∧some k_≠(.slice dY cg.length db:Value).ownBlock)∧some k_≠(.slice bo bp.length bi:Value).ownBlock)) (n:=cb.length) (c:=cj) ?_).2.2;exact (by exact zr (Kd.z7 (zR9 df (Kd.z10 gq.out cq.out zY4) (.int .i64 cZ) (.int .i64 aG) (.string dA) (.string dB) (.int .i64 dC) (.string bm) (.string cK) (.slice ct cb.length cj) (.slice da cw.length cO)) (fun _ h_=>h_.1))));(case side2=>exact (Kd.z8 gq.out).2.1);(case side3=>refine (Kd.z8 (e:=9) (base:=w.heap.size) (ok:=fun k_=>((True∧some k_≠(.slice dG cF.length dc:Value).ownBlock)∧some k_≠(.slice bk bq.length bc:Value).ownBlock)) (n:=cw.length) (c:=cO) ?_).2.2;exact (by exact zr (Kd.z7 (zR9 df (Kd.z10 gr.out cq.out zY4) (.int .i64 cZ) (.int .i64 aG) (.string dA) (.string dB) (.int .i64 dC) (.string bm) (.string cK) (.slice ct cb.length cj) (.slice da cw.length cO)) (fun _ h_=>h_.1))));(case side4=>exact (Kd.z8 gr.out).2.1);(case side5=>refine (Kd.z8 (e:=24) (base:=w.heap.size) (ok:=fun k_=>(some k_≠(.slice bo bp.length bi:Value).ownBlock∧some k_≠(.slice ct cb.length cj:Value).ownBlock)) (n:=cg.length) (c:=db) ?_).2.2;exact (by exact zr (Kd.z7 (zR9 df (Kd.z10 cT.out cq.out zY4) (.int .i64 cZ) (.int .i64 aG) (.string dA) (.string dB) (.int .i64 dC) (.string bm) (.string cK) (.slice ct cb.length cj) (.slice da cw.length cO)) (fun _ h_=>h_.1))));(case side6=>exact (Kd.z8 cT.out).2.1);(case side7=>refine (Kd.z8 (e:=9) (base:=w.heap.size) (ok:=fun k_=>(some k_≠(.slice bk bq.length bc:Value).ownBlock∧some k_≠(.slice da cw.length cO:Value).ownBlock)) (n:=cF.length) (c:=dc) ?_).2.2;exact (by exact zr (Kd.z7 (zR9 df (Kd.z10 cU.out cq.out zY4) (.int .i64 cZ) (.int .i64 aG) (.string dA) (.string dB) (.int .i64 dC) (.string bm) (.string cK) (.slice ct cb.length cj) (.slice da cw.length cO)) (fun _ h_=>h_.1))));(case side8=>exact (Kd.z8 cU.out).2.1);rintro e uV ⟨rfl,hb⟩;refine ⟨_,rfl,?_⟩;replace cT:=zA (Kd.z2 (by exact zr (Kd.z7 (zR9 df (Kd.z10 cT.out cq.out zY4) (.int .i64 cZ) (.int .i64 aG) (.string dA) (.string dB) (.int .i64 dC) (.string bm) (.string cK) (.slice ct cb.length cj) (.slice da cw.length cO)) (fun _ h_=>h_.1))) hb);replace cU:=zA (Kd.z2 (by exact zr (Kd.z7 (zR9 df (Kd.z10 cU.out cq.out zY4) (.int .i64 cZ) (.int .i64 aG) (.string dA) (.string dB) (.int .i64 dC) (.string bm) (.string cK) (.slice ct cb.length cj) (.slice da cw.length cO)) (fun _ h_=>h_.1))) hb);replace bC:=zA (Kd.z2 (by exact zr (Kd.z7 (zR9 df (Kd.z10 bC.out cq.out zY4) (.int .i64 cZ) (.int .i64 aG) (.string dA) (.string dB) (.int .i64 dC) (.string bm) (.string cK) (.slice ct cb.length cj) (.slice da cw.length cO)) (fun _ h_=>h_.1))) hb);replace bD:=zA (Kd.z2 (by exact zr (Kd.z7 (zR9 df (Kd.z10 bD.out cq.out zY4) (.int .i64 cZ) (.int .i64 aG) (.string dA) (.string dB) (.int .i64 dC) (.string bm) (.string cK) (.slice ct cb.length cj) (.slice da cw.length cO)) (fun _ h_=>h_.1))) hb);replace gq:=zA (Kd.z2 (by exact zr (Kd.z7 (zR9 df (Kd.z10 gq.out cq.out zY4) (.int .i64 cZ) (.int .i64 aG) (.string dA) (.string dB) (.int .i64 dC) (.string bm) (.string cK) (.slice ct cb.length cj) (.slice da cw.length cO)) (fun _ h_=>h_.1))) hb);replace gr:=zA (Kd.z2 (by exact zr (Kd.z7 (zR9 df (Kd.z10 gr.out cq.out zY4) (.int .i64 cZ) (.int .i64 aG) (.string dA) (.string dB) (.int .i64 dC) (.string bm) (.string cK) (.slice ct cb.length cj) (.slice da cw.length cO)) (fun _ h_=>h_.1))) hb);replace br:=zA (zq1 (g:=fc) (o:=.cells #[.int .i64 b7,.int .i64 cV,.string dR,.string cu,.int .i64 b8,.string bZ,.string cB,.slice dY cg.length db,.slice dG cF.length dc] 30 (0,0)) (zG br.out) hb);replace am:=zA (zq1 (g:=bQ) (o:=.cells #[.int .i64 aT,.int .i64 bG,.string cd,.string aX,.int .i64 aY,.string bA,.string bb,.slice bo bp.length bi,.slice bk bq.length bc] 30 (0,0)) (zG am.out) hb);replace cq:=zA (zq1 (g:=df) (o:=.cells #[.int .i64 cZ,.int .i64 aG,.string dA,.string dB,.int .i64 dC,.string bm,.string cK,.slice ct cb.length cj,.slice da cw.length cO] 30 (0,0)) (zG cq.out) hb);replace HB:=zA (zq0 zB hb);clear hb))
    go_meet
    case rel=>exact ⟨_,(true),zY3,H',⟨by have:=HJ4.out;first|omega|exact Nat.le_refl _⟩,⟨zVR cT.out⟩,⟨zVR cU.out⟩,⟨zVR bC.out⟩,⟨zVR bD.out⟩,⟨by (with_reducible repeat (first|apply Kd.z1|apply Kd.z4|apply Kd.z3));exact Kd.z7 gq.out (fun _ hk=>⟨hk.1.2,hk.2⟩)⟩,⟨by (with_reducible repeat (first|apply Kd.z1|apply Kd.z4|apply Kd.z3));exact Kd.z7 gr.out (fun _ hk=>⟨hk.1.2,hk.2⟩)⟩,⟨zK br.out⟩,⟨zK am.out⟩,⟨zK cq.out⟩,⟨zB⟩⟩
   case rest =>
    clear yr
    try clear c1
    try clear c2
    try clear c2b0
    try clear c2b1
    try clear p2
    try clear c3
    try clear c4
    try clear c5
    try clear c6
    try clear bH
    try clear bj
    try clear bB
    try clear bW
    try clear ck
    try clear e7
    try clear bK
    try clear cL
    try clear g5
    try clear eU
    try clear fm
    try clear c30b0
    try clear i8
    try clear gj
    try clear c36b0
    try clear c36b1
    try clear f5
    try clear l6
    try clear eT
    try clear gA
    try clear ka
    try clear OP
    try clear sn
    try clear Km
    try clear OQ
    try clear wx
    try clear pL pM pN pO pP pQ pR pS pT
    try clear Ce Cf Cg Ch Ci Cj Ck Cl Cm
    try clear Cw Cx Cy Cz CA CB CD CE CF
    try clear CP CQ CR CS CT CU CV CW CX
    try clear o1 o2 o3 o4 o5 o6 o7 o8 o9
    try clear K2 K3 K4 K5 K6 K7 K8 K9 La
    try clear rk rl rm rn ro rp rq rr rt
    try clear oq ot ou ov xD xE xF xG xH
    try clear xN xO xP xQ xR xS xT xU xV
    try clear Ll Lm Ln Lo Lp Lq Lr Ls Lt
    try clear vY vZ wa wb wd we wg wh wi
    try clear LF LG LH LI LJ LK LM LN LO
    try clear LY LZ L0 L1 L3 L4 L5 L6 L7
    try clear xi xj xk xl xm xn xo xp xq
    try clear qt qu qv qw BY BZ B0 B1 B2
    try clear pU pV pW pX pY pZ qa qb qc
    try clear Cn Co Cp Cq Cr Cs Ct Cu Cv
    try clear CG CH CI CJ CK CL CM CN CO
    try clear CY CZ C0 C1 C2 C3 C4 C5 C6
    try clear pa pb pc pd pf pg ph pi pj
    try clear Lb Lc Ld Le Lf Lg Lh Li Lj
    try clear ru rv rx ry rz rA rB rC rD
    try clear ow ox oy oz xI xJ xK xL xM
    try clear xW xX xY xZ ya yb yc yd ye
    try clear Lu Lv Lw Lx Ly Lz LA LB LC
    try clear wj wk wl wm wn wo wq ws wt
    try clear LP LQ LR LS LT LU LV LW LX
    try clear L8 L9 Ma Mb Mc Md Me Mf Mg
    try clear xr xt xu xv xw xx xy xz xA
    try clear qx qy qz qA B9 Ca Cb Cc Cd
    try clear p2
    obtain ⟨kq,sK,rfl,HA,HJ37,cT,cU,bC,bD,la,lb,br,am,cq,HB⟩:=hcut
    have jn:=(Kd.z8 bC.out).1
    rw [jn] at bC
    (try simp only [jn])
    (try simp only [jn] at br)
    (try simp only [jn] at am)
    (try simp only [jn] at cq)
    (try simp only [jn] at cT)
    (try simp only [jn] at cU)
    (try simp only [jn] at bD)
    (try simp only [jn] at la)
    (try simp only [jn] at lb)
    have jo:=(Kd.z8 bD.out).1
    rw [jo] at bD
    (try simp only [jo])
    (try simp only [jo] at br)
    (try simp only [jo] at am)
    (try simp only [jo] at cq)
    (try simp only [jo] at cT)
    (try simp only [jo] at cU)
    (try simp only [jo] at bC)
    (try simp only [jo] at la)
    (try simp only [jo] at lb)
    cases kq with
    | zero=>exact absurd HA.out (by simp [laws_FnExactNoteGet.j1])
    | succ kj37 =>
     have H:=HA.out
     clear HA
     simp only [laws_FnExactNoteGet.j1] at H
     by_cases sL:sK=true
     ·subst sL
      rw [if_pos rfl] at H
      obtain rfl:=Option.some.inj H
      go_wp2
      go_ret
      exact ⟨zT,zB⟩
     replace sL:=Bool.eq_false_iff.mpr sL
     subst sL
     rw [if_neg zfn] at H
     replace H:=Option.bind_eq_some_iff.mp H
     obtain ⟨f9,C9,H⟩:=H
     try dsimp only at H
     have yv:=zA C9
     clear C9
     by_cases mt:f9 < 0
     ·rw [if_pos mt] at H
      have c67b0:decide (f9 < 0)=true:=decide_eq_true mt
      clear mt
      obtain rfl:=Option.some.inj H
      have zw:=iS.out
      have zx:=iR.out
      have OR:=no.out
      have OS:=np.out
      obtain ⟨_,_,_,_,_,_,_,_,_⟩:=zc9 am.out
      obtain ⟨_,_,_,_,_,_,_,_,_⟩:=zf9 am.out
      go_wp2_with (first|((with_reducible refine zq2 (f:=17) rfl ?_);refine zq4 (some 60) rfl rfl Tryz.func17 zY2 rfl #[.agg #[.int .i64 aT,.int .i64 bG,.string cd,.string aX,.int .i64 aY,.string bA,.string bb,.slice bo d5.length bi,.slice bk eO.length bc],.int .i64 1] rfl zY0 ?_;(with_reducible refine (laws_heldNote.calls kj37 aT bG cd aX aY bA bb _ _ d5 _ _ eO 1 f9 _ ?side1 ?side2 ?side3 ?side4 yv.out).mono ?_);(case side1=>exact zC (Kd.z8 bC.out).2.2);(case side2=>exact (Kd.z8 bC.out).2.1);(case side3=>exact zC (Kd.z8 bD.out).2.2);(case side4=>exact (Kd.z8 bD.out).2.1);rintro e zP ⟨rfl,hb⟩;refine ⟨_,rfl,?_⟩;replace cT:=zA (Kd.z2 (zVR cT.out) hb);replace cU:=zA (Kd.z2 (zVR cU.out) hb);replace bC:=zA (Kd.z2 (zVR bC.out) hb);replace bD:=zA (Kd.z2 (zVR bD.out) hb);replace la:=zA (Kd.z2 (zVR la.out) hb);replace lb:=zA (Kd.z2 (zVR lb.out) hb);replace br:=zA (zq1 (zK br.out) hb);replace am:=zA (zq1 (zK am.out) hb);replace cq:=zA (zq1 (zK cq.out) hb);replace HB:=zA (zq0 zB hb);clear hb))
      go_ret
      exact ⟨zT,zB⟩
     rw [if_neg mt] at H
     have c67b0:decide (f9 < 0)=false:=decide_eq_false mt
     clear mt
     by_cases mz:f9=gT
     rotate_left
     ·rw [if_neg mz] at H
      have c72b0:(f9==gT)=false:=beq_eq_false_iff_ne.mpr mz
      have c72b1:(f9 != gT)=true:=bne_iff_ne.mpr mz
      obtain rfl:=Option.some.inj H
      have Ey:=iS.out
      have Ez:=iR.out
      have GC:=no.out
      have GD:=np.out
      obtain ⟨_,_,_,_,_,_,_,_,_⟩:=zc9 am.out
      obtain ⟨_,_,_,_,_,_,_,_,_⟩:=zf9 am.out
      go_wp2_with (first|((with_reducible refine zq2 (f:=17) rfl ?_);refine zq4 (some 60) rfl rfl Tryz.func17 zY2 rfl #[.agg #[.int .i64 aT,.int .i64 bG,.string cd,.string aX,.int .i64 aY,.string bA,.string bb,.slice bo d5.length bi,.slice bk eO.length bc],.int .i64 1] rfl zY0 ?_;(with_reducible refine (laws_heldNote.calls kj37 aT bG cd aX aY bA bb _ _ d5 _ _ eO 1 f9 _ ?side1 ?side2 ?side3 ?side4 yv.out).mono ?_);(case side1=>exact zC (Kd.z8 bC.out).2.2);(case side2=>exact (Kd.z8 bC.out).2.1);(case side3=>exact zC (Kd.z8 bD.out).2.2);(case side4=>exact (Kd.z8 bD.out).2.1);rintro e KB ⟨rfl,hb⟩;refine ⟨_,rfl,?_⟩;replace cT:=zA (Kd.z2 (zVR cT.out) hb);replace cU:=zA (Kd.z2 (zVR cU.out) hb);replace bC:=zA (Kd.z2 (zVR bC.out) hb);replace bD:=zA (Kd.z2 (zVR bD.out) hb);replace la:=zA (Kd.z2 (zVR la.out) hb);replace lb:=zA (Kd.z2 (zVR lb.out) hb);replace br:=zA (zq1 (zK br.out) hb);replace am:=zA (zq1 (zK am.out) hb);replace cq:=zA (zq1 (zK cq.out) hb);replace HB:=zA (zq0 zB hb);clear hb))
      go_ret
      exact ⟨zT,zB⟩
     rw [if_pos mz] at H
     have c72b0:(f9==gT)=true:=beq_iff_eq.mpr mz
     have c72b1:(f9 != gT)=false:=bne_eq_false_iff_eq.mpr mz
     clear mz
     obtain rfl:=Option.some.inj H
     have GP:=iS.out
     have GQ:=iR.out
     have GR:=no.out
     have GS:=np.out
     obtain ⟨_,_,_,_,_,_,_,_,_⟩:=zc9 am.out
     obtain ⟨_,_,_,_,_,_,_,_,_⟩:=zf9 am.out
     go_wp2_with (first|((with_reducible refine zq2 (f:=17) rfl ?_);refine zq4 (some 60) rfl rfl Tryz.func17 zY2 rfl #[.agg #[.int .i64 aT,.int .i64 bG,.string cd,.string aX,.int .i64 aY,.string bA,.string bb,.slice bo d5.length bi,.slice bk eO.length bc],.int .i64 1] rfl zY0 ?_;(with_reducible refine (laws_heldNote.calls kj37 aT bG cd aX aY bA bb _ _ d5 _ _ eO 1 f9 _ ?side1 ?side2 ?side3 ?side4 yv.out).mono ?_);(case side1=>exact zC (Kd.z8 bC.out).2.2);(case side2=>exact (Kd.z8 bC.out).2.1);(case side3=>exact zC (Kd.z8 bD.out).2.2);(case side4=>exact (Kd.z8 bD.out).2.1);rintro e OT ⟨rfl,hb⟩;refine ⟨_,rfl,?_⟩;replace cT:=zA (Kd.z2 (zVR cT.out) hb);replace cU:=zA (Kd.z2 (zVR cU.out) hb);replace bC:=zA (Kd.z2 (zVR bC.out) hb);replace bD:=zA (Kd.z2 (zVR bD.out) hb);replace la:=zA (Kd.z2 (zVR la.out) hb);replace lb:=zA (Kd.z2 (zVR lb.out) hb);replace br:=zA (zq1 (zK br.out) hb);replace am:=zA (zq1 (zK am.out) hb);replace cq:=zA (zq1 (zK cq.out) hb);replace HB:=zA (zq0 zB hb);clear hb))
     go_ret
     exact ⟨zT,zB⟩
end Go.Proofs.YtjdpdkdhfnpcgaaGreatDoor.Q
