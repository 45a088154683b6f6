/- Of a text of ours what this claim needs. -/
import Derived.Test.YtjdpdkdhfnpcgaaGreatDoorZzFnExactNoteGetSQ0
import Derived.Test.YtjdpdkdhfnpcgaaGreatDoorZzFnExactNoteGetSAu
namespace Go.Proofs.YtjdpdkdhfnpcgaaGreatDoor.Q
open Go.RowKit Go.Proofs.YtjdpdkdhfnpcgaaGreatDoorW.PrintWords Go.Proofs.YtjdpdkdhfnpcgaaGreatDoorW.PrintLast Go.Proofs.YtjdpdkdhfnpcgaaGreatDoorW.PrintMore
attribute [local go_sem] max2_int min2_int max_two min_two max_three min_three max_four min_four
set_option linter.unusedVariables false
set_option linter.unusedSimpArgs false
def laws_markText.l0:Nat→Int→ByteArray→Option (ByteArray)
 | 0,_,_=>none
 | k+1,x0,x3=>if x0 > 0 then ((some (([(wrap64 (48+(Int.tmod x0 10))) % 256]:List Int):List Int)).bind fun iv=>(if (strOfNums iv).size+x3.size≤9223372036854775807 then (laws_markText.l0 k (wrap64 (Int.tdiv x0 10)) ((strOfNums iv)++x3)) else (none))) else (if 1+x3.size≤9223372036854775807 then (some ((⟨#[109]⟩:ByteArray)++x3)) else (none))
def laws_markText.f (k:Nat) (a0:Int):Option (ByteArray):=if a0≤0 then (some (⟨#[109,48]⟩:ByteArray)) else (laws_markText.l0 k a0 (⟨#[]⟩:ByteArray))
set_option maxHeartbeats 8000000 in
set_option maxRecDepth 100000 in
theorem laws_markText.calls (k:Nat) (a0:Int) (r:ByteArray) (w:World) (h:laws_markText.f k a0=some r) :
 Calls Tryz.prog 129 #[.int .i64 a0] w fun e w'=>e=.returned (.string r)∧Below w.heap.size w w':=by
 have HB:=zA (Below.refl w.heap.size w)
 have H:(if a0≤0 then (some (⟨#[109,48]⟩:ByteArray)) else (laws_markText.l0 k a0 bz0))=some r:=h
 clear h
 by_cases c2:a0≤0
 ·rw [if_pos c2] at H
  have c2b0:decide (a0≤0)=true:=decide_eq_true c2
  clear c2
  obtain rfl:=Option.some.inj H
  go_enter Tryz.func129,Tryz.ntmps129
  go_wp2
  go_ret
  exact ⟨zT,zB⟩
 rw [if_neg c2] at H
 have c2b0:decide (a0≤0)=false:=decide_eq_false c2
 clear c2
 have H':=zA H
 clear H
 go_enter Tryz.func129,Tryz.ntmps129
 go_wp2
 go_loopg [0,3] k (fun kq v0 v3 w'=>∃ (bY:Int) (ac:ByteArray),v0=.int .i64 bY∧v3=.string ac∧Aside0 (laws_markText.l0 kq bY ac=some r)∧Aside0 (kq≤k)∧Aside0 (Below w.heap.size w w'))
 case atStart=>exact ⟨(a0),(bz0),zY3,zY3,H',⟨Nat.le_refl _⟩,⟨zB⟩⟩
 case round =>
  clear H'
  try clear c1
  try clear c2
  try clear c2b0
  try clear p2
  obtain ⟨bY,ac,rfl,rfl,HA,HK1,HB⟩:=hrel
  cases gk with
  | zero=>exact absurd HA.out (by simp [laws_markText.l0])
  | succ k1 =>
   have H:=HA.out
   clear HA
   simp only [laws_markText.l0] at H
   by_cases c3:bY > 0
   rotate_left
   ·rw [if_neg c3] at H
    have c3b0:decide (0 < bY)=false:=decide_eq_false c3
    clear c3
    obtain ⟨c8,H⟩:=zp H
    have c8b0:=eq_true c8
    have c8b1:decide (1+ac.size≤9223372036854775807)=true:=decide_eq_true c8
    try have c8b2:(9223372036854775807 < 1+ac.size)=False:=eq_false (Nat.not_lt.2 c8)
    obtain rfl:=Option.some.inj H
    go_wp2
    go_ret
    exact ⟨zT,zB⟩
   rw [if_pos c3] at H
   have c3b0:decide (0 < bY)=true:=decide_eq_true c3
   clear c3
   obtain ⟨iv,lV⟩:∃ y_:List Int,y_=(([(wrap64 (48+(Int.tmod bY 10))) % 256]:List Int)):=⟨_,rfl⟩
   replace H:(if (strOfNums iv).size+ac.size≤9223372036854775807 then (laws_markText.l0 k1 (wrap64 (Int.tdiv bY 10)) ((strOfNums iv)++ac)) else (none))=some r:=zX lV H
   have jI:=zA lV
   clear lV
   obtain ⟨c4,H⟩:=zp H
   have c4b0:=eq_true c4
   have c4b1:decide ((strOfNums iv).size+ac.size≤9223372036854775807)=true:=decide_eq_true c4
   try have c4b2:(9223372036854775807 < (strOfNums iv).size+ac.size)=False:=eq_false (Nat.not_lt.2 c4)
   have H':=zA H
   clear H
   go_wp2_with (first|((with_reducible refine zq5 (N:=12) rfl ?_);refine Kd.R_lit (Kd.int .u8) _ 5 ?hg (N:=12) ?hd (xs:=([(wrap64 (48+(Int.tmod bY 10))) % 256]:List Int)) (inner:=[.int .u8 ((wrap64 (48+(Int.tmod bY 10))) % 256)]) (ok:=fun _=>True) (okp:=fun _=>True) ?hr ?hp (fun _ hk=>hk) trivial (Below.refl _ _) (Nat.le_refl _) (by simp) ?_;(case hd=>rfl);(case hg=>rfl);(case hr=>first|(go_simp;done)|(go_simp;rfl));(case hp=>exact (Reps.one (show Kd.M (Kd.int .u8) _ _ _ ((wrap64 (48+(Int.tmod bY 10))) % 256) [.int .u8 ((wrap64 (48+(Int.tmod bY 10))) % 256)] from rfl) (Reps.none _ _)));intro uz w5 hU hb hg_ hnew_;clear hg_ hnew_;(first|rw [← jI.out] at hU|(simp only [Int.reduceToNat] at hU;rw [← jI.out] at hU));have n8:=zA (Kd.z6 hU (zq7 zB));replace HB:=zA (zq0 zB hb);clear hb hU;have hcv7:=own_string (P:=Tryz.prog) Tryz.underlying22 Tryz.underlying5 Tryz.underlying9 (Kd.own_of_R n8.out)))
   go_roundg k1
   case measure=>have:=HK1.out;omega
   case rel=>exact ⟨(wrap64 (Int.tdiv bY 10)),((strOfNums iv)++ac),zY3,zY3,H',⟨by have:=HK1.out;omega⟩,⟨zB⟩⟩
def laws_markAddrS.l0:Nat→List (S24)→Int→Int→Option (Int × (List (S24)))
 | 0,_,_,_=>none
 | k+1,x0,x1,x5=>if x5 < (x0.length:Int) then ((laws_markText.f k x1).bind fun aH=>(if 0≤x5 then ((some (x0.set (x5:Int).toNat (⟨aH,(zq6 x0 x5).f1⟩:S24):List (S24))).bind fun fV=>((laws_markText.f k (wrap64 (x1+1))).bind fun cn=>(laws_markAddrS.l0 k (fV.set (x5:Int).toNat (⟨(zq6 fV x5).f0,cn⟩:S24)) (wrap64 ((wrap64 (x1+1))+1)) (wrap64 (x5+1))))) else (none))) else (some (x1,x0))
def laws_markAddrS.f (k:Nat) (l0:List (S24)) (a1:Int):Option (Int × (List (S24))):=laws_markAddrS.l0 k l0 a1 0
set_option maxHeartbeats 8000000 in
set_option maxRecDepth 100000 in
theorem laws_markAddrS.calls (k:Nat) (d4:Nat→Prop) (u9000_:Value) (l0:List (S24)) (a1:Int) (r1:Int) (r2:List (S24)) (w0 w:World) (hB:Below w0.heap.size w0 w) (ar:Kd.R k24 24 w w0.heap.size d4 u9000_ l0) (h:laws_markAddrS.f k l0 a1=some (r1,r2)) :
 Calls Tryz.prog 84 #[u9000_,.int .i64 a1] w fun e w'=>e=.returned (.int .i64 r1)∧Kd.R k24 24 w' w0.heap.size (fun k_=>(d4 k_ ∨ w.heap.size≤k_)) u9000_ r2∧Below w0.heap.size w0 w'∧Kept w w' (fun k_=>d4 k_):=by
 have yg:=zA (show Kd.R k24 24 w w0.heap.size (fun k_=>(d4 k_ ∨ w.heap.size≤k_)) u9000_ l0 from Kd.z7 ar (fun k_ hk=>(.inl hk)))
 have HK:=zA (Kept.refl w (fun k_=>d4 k_))
 have HW0:=zA hB.size
 have HB:=zA hB
 clear hB
 have H:(laws_markAddrS.l0 k l0 a1 0)=some (r1,r2):=h
 clear h
 have H':=zA H
 clear H
 go_enter Tryz.func84,Tryz.ntmps84
 go_wp2
 go_loopg [1,5] k (fun kq v1 v5 w'=>∃ (bY:List (S24)) (cD:Int) (ae:Int),v1=.int .i64 cD∧v5=.int .i64 ae∧Aside0 (laws_markAddrS.l0 kq bY cD ae=some (r1,r2))∧Aside0 (kq≤k)∧Aside0 (Kd.R k24 24 w' w0.heap.size (fun k_=>(d4 k_ ∨ w.heap.size≤k_)) u9000_ bY)∧Aside0 (Kept w w' (fun k_=>d4 k_))∧Aside0 (Below w0.heap.size w0 w'))
 case atStart=>exact ⟨(l0),(a1),(0),zY3,zY3,H',⟨Nat.le_refl _⟩,⟨zVR yg.out⟩,⟨by repeat (first|(with_reducible first|exact HK.out|apply Kept.alloc|apply Kept.drewN|apply Kept.drew)|exact HK.out)⟩,⟨zB⟩⟩
 case round =>
  clear H'
  try clear p2
  obtain ⟨bY,cD,ae,rfl,rfl,HA,HK1,de,HK,HB⟩:=hrel
  cases gk with
  | zero=>exact absurd HA.out (by simp [laws_markAddrS.l0])
  | succ k1 =>
   have H:=HA.out
   clear HA
   simp only [laws_markAddrS.l0] at H
   by_cases c3:ae < (bY.length:Int)
   rotate_left
   ·rw [if_neg c3] at H
    have c3b0:decide (ae < (bY.length:Int))=false:=decide_eq_false c3
    clear c3
    simp only [Option.some.injEq,Prod.mk.injEq] at H
    obtain ⟨rfl,rfl⟩:=H
    obtain ⟨bk,bc,mg⟩:=Kd.z9 de.out
    subst mg
    go_wp2
    go_ret
    exact ⟨zT,by (with_reducible repeat (first|apply Kd.z1|apply Kd.z4|apply Kd.z3));exact de.out,zB,by repeat (first|(with_reducible first|exact HK.out|apply Kept.alloc|apply Kept.drewN|apply Kept.drew)|exact HK.out)⟩
   rw [if_pos c3] at H
   have c3b0:decide (ae < (bY.length:Int))=true:=decide_eq_true c3
   clear c3
   replace H:=Option.bind_eq_some_iff.mp H
   obtain ⟨aH,ci,H⟩:=H
   try dsimp only at H
   have A4:=zA ci
   clear ci
   obtain ⟨c5,H⟩:=zp H
   have c5b0:decide (0≤ae)=true:=decide_eq_true c5
   clear c5
   obtain ⟨fV,mv⟩:∃ y_:List (S24),y_=(bY.set (ae:Int).toNat (⟨aH,(zq6 bY ae).f1⟩:S24)):=⟨_,rfl⟩
   replace H:((laws_markText.f k1 (wrap64 (cD+1))).bind fun cn=>(laws_markAddrS.l0 k1 (fV.set (ae:Int).toNat (⟨(zq6 fV ae).f0,cn⟩:S24)) (wrap64 ((wrap64 (cD+1))+1)) (wrap64 (ae+1))))=some (r1,r2):=zX mv H
   have yh:=zA mv
   clear mv
   replace H:=Option.bind_eq_some_iff.mp H
   obtain ⟨cn,fI,H⟩:=H
   try dsimp only at H
   have A7:=zA fI
   clear fI
   obtain ⟨jJ,ix⟩:∃ y_:List (S24),y_=(fV.set (ae:Int).toNat (⟨(zq6 fV ae).f0,cn⟩:S24)):=⟨_,rfl⟩
   replace H:(laws_markAddrS.l0 k1 jJ (wrap64 ((wrap64 (cD+1))+1)) (wrap64 (ae+1)))=some (r1,r2):=zX ix H
   have lW:=zA ix
   clear ix
   have H':=zA H
   clear H
   obtain ⟨dY,db,nE⟩:=Kd.z9 de.out
   subst nE
   go_wp2_with (first|((with_reducible refine zq2 (f:=129) rfl ?_);refine zq4 (some 15) rfl rfl Tryz.func129 zY2 rfl #[.int .i64 cD] rfl zY0 ?_;(with_reducible refine (laws_markText.calls k1 cD aH _ A4.out).mono ?_);rintro e cv ⟨rfl,hb⟩;refine ⟨_,rfl,?_⟩;replace de:=zA (Kd.z2 (zVR de.out) hb);replace HK:=zA (Kept.below (S:=(fun k_=>d4 k_)) zY15 hb);replace HB:=zA (zq0 zB hb);clear hb;have p6:0≤(ae:Int):=of_decide_eq_true zY1;have q6:(ae:Int) < ((bY.length:Int):Int):=of_decide_eq_true zY1;obtain ⟨en,ne,mw,qf,yi,KC,qg⟩:=Kd.R_form de.out zY6;(first|cases mw|(injection mw with ea_ en_ ec_;(first|subst ea_|(injection ea_ with ea_;subst ea_));subst ec_;clear en_));have sH:=zA qf;have KD:=zA qg;clear qf yi qg;have HMgo6:=zA (show (d4 en ∨ w.heap.size≤en) from (de.out.1 _ rfl));obtain ⟨ce6,hcl6,hM6,hcc6,hfr6⟩:=Kd.R_elem de.out z24 (ae:Int) p6 q6;obtain rfl:=k24_openM hM6;have KE:cv.cell? ⟨en,(ae:Int).toNat * 2,none⟩=some (.string ((zq6 bY ae).f0)):=hcc6 0 _ rfl;have Oc:cv.cell? ⟨en,(ae:Int).toNat * 2+1,none⟩=some (.string ((zq6 bY ae).f1)):=hcc6 1 _ rfl;have KF:cv.frozen? ⟨en,(ae:Int).toNat * 2,none⟩=false:=hfr6 0;have Od:cv.frozen? ⟨en,(ae:Int).toNat * 2+1,none⟩=false:=hfr6 1;clear hcl6 hcc6 hfr6 hM6;replace p6:=eq_true p6;replace q6:=eq_true q6;have BW:=zA (show Kd.R k24 24 cv w0.heap.size (fun k_=>(d4 k_ ∨ w.heap.size≤k_)) (.slice (some ⟨en,0,none⟩) bY.length db) bY from (zVR de.out));obtain ⟨ce11,hcl11,hM11,hcc11,hfr11⟩:=Kd.R_elem BW.out z24 (ae:Int) (of_decide_eq_true zY1) (by have h_:(ae:Int) < ((bY.length:Int):Int):=of_decide_eq_true zY1;first|exact h_|(have e_:=(Kd.z8 de.out).1;omega)|simpa using h_);obtain rfl:=k24_openM hM11;have yj:=Kd.R_seg BW.out (ae:Int) (of_decide_eq_true zY1) (by have h_:(ae:Int) < ((bY.length:Int):Int):=of_decide_eq_true zY1;first|exact h_|(have e_:=(Kd.z8 de.out).1;omega)|simpa using h_) (seg:=[.string aH]) (j:=0) hcl11 hcc11 (show 1≤2 from by decide) (x':=(⟨aH,(zq6 bY ae).f1⟩:S24)) (k24_mkM _ _ _ (⟨aH,(zq6 bY ae).f1⟩:S24) ) (fun _ hk=>hk);have KG:=hcc11 0 _ rfl;(try simp only [show (k24).sz=2 from rfl,Nat.mul_one,Nat.add_zero] at KG);have KH:=hfr11 0;(try simp only [show (k24).sz=2 from rfl,Nat.mul_one,Nat.add_zero] at KH);clear hcl11 hcc11 hfr11 hM11)|((with_reducible refine gate_store (t:=9) (p:=17) rfl ?_);refine store_event (t:=9) (p:=17) (v:=?vo_w12) (w1:=(cv.setCell ⟨en,(ae:Int).toNat * 2,none⟩ (.string aH))) ?hg ?ho ?hn ?hr ?_;(case ho=>rfl);(case hg=>rfl);(case hn=>rfl);(case hr=>first|(go_simp;done)|(go_simp;rfl));intro gx hw;have hg:cv.grownBy gx (some en):=(by rw [hw];exact yj.2);have hp_:Kd.R k24 24 gx w0.heap.size (fun k_=>(d4 k_ ∨ w.heap.size≤k_)) (.slice (some ⟨en,0,none⟩) bY.length db) fV:=(by rw [hw,yh.out];exact yj.1);clear yj;replace HB:=zA ((by rw [hw];exact below_set (HB.out) sH.out:Below w0.heap.size w0 gx));replace HK:=zA (Kept.of_grown (S:=(fun k_=>d4 k_)) hg zY15 (fun k_ e_=>(de.out.1 k_ e_)));replace de:=zA (hp_);clear hg hw hp_)|((with_reducible refine zq2 (f:=129) rfl ?_);refine zq4 (some 23) rfl rfl Tryz.func129 zY2 rfl #[.int .i64 (wrap64 (cD+1))] rfl zY0 ?_;(with_reducible refine (laws_markText.calls k1 (wrap64 (cD+1)) cn _ A7.out).mono ?_);rintro e g0 ⟨rfl,hb⟩;refine ⟨_,rfl,?_⟩;replace de:=zA (Kd.z2 (zVR de.out) hb);replace HK:=zA (Kept.below (S:=(fun k_=>d4 k_)) zY15 hb);replace HB:=zA (zq0 zB hb);clear hb;have p8:0≤(ae:Int):=of_decide_eq_true zY1;have q8:(ae:Int) < ((bY.length:Int):Int):=of_decide_eq_true zY1;obtain ⟨ce8,hcl8,hM8,hcc8,hfr8⟩:=Kd.R_elem de.out z24 (ae:Int) p8 q8;obtain rfl:=k24_openM hM8;have Oe:g0.cell? ⟨en,(ae:Int).toNat * 2,none⟩=some (.string ((zq6 fV ae).f0)):=hcc8 0 _ rfl;have Og:g0.cell? ⟨en,(ae:Int).toNat * 2+1,none⟩=some (.string ((zq6 fV ae).f1)):=hcc8 1 _ rfl;have Oh:g0.frozen? ⟨en,(ae:Int).toNat * 2,none⟩=false:=hfr8 0;have Oi:g0.frozen? ⟨en,(ae:Int).toNat * 2+1,none⟩=false:=hfr8 1;clear hcl8 hcc8 hfr8 hM8;replace p8:=eq_true p8;replace q8:=eq_true q8;have BX:=zA (show Kd.R k24 24 g0 w0.heap.size (fun k_=>(d4 k_ ∨ w.heap.size≤k_)) (.slice (some ⟨en,0,none⟩) bY.length db) fV from (zVR de.out));obtain ⟨ce14,hcl14,hM14,hcc14,hfr14⟩:=Kd.R_elem BX.out z24 (ae:Int) (of_decide_eq_true zY1) (by have h_:(ae:Int) < ((bY.length:Int):Int):=of_decide_eq_true zY1;first|exact h_|(have e_:=(Kd.z8 de.out).1;omega)|simpa using h_);obtain rfl:=k24_openM hM14;have yk:=Kd.R_seg BX.out (ae:Int) (of_decide_eq_true zY1) (by have h_:(ae:Int) < ((bY.length:Int):Int):=of_decide_eq_true zY1;first|exact h_|(have e_:=(Kd.z8 de.out).1;omega)|simpa using h_) (seg:=[.string cn]) (j:=1) hcl14 hcc14 (show 2≤2 from by decide) (x':=(⟨(zq6 fV ae).f0,cn⟩:S24)) (k24_mkM _ _ _ (⟨(zq6 fV ae).f0,cn⟩:S24) ) (fun _ hk=>hk);have KI:=hcc14 1 _ rfl;(try simp only [show (k24).sz=2 from rfl,Nat.mul_one,Nat.add_zero] at KI);have KJ:=hfr14 1;(try simp only [show (k24).sz=2 from rfl,Nat.mul_one,Nat.add_zero] at KJ);clear hcl14 hcc14 hfr14 hM14)|((with_reducible refine gate_store (t:=9) (p:=25) rfl ?_);refine store_event (t:=9) (p:=25) (v:=?vo_w15) (w1:=(g0.setCell ⟨en,(ae:Int).toNat * 2+1,none⟩ (.string cn))) ?hg ?ho ?hn ?hr ?_;(case ho=>rfl);(case hg=>rfl);(case hn=>rfl);(case hr=>first|(go_simp;done)|(go_simp;rfl));intro ic hw;have hg:g0.grownBy ic (some en):=(by rw [hw];exact yk.2);have hp_:Kd.R k24 24 ic w0.heap.size (fun k_=>(d4 k_ ∨ w.heap.size≤k_)) (.slice (some ⟨en,0,none⟩) bY.length db) jJ:=(by rw [hw,lW.out];exact yk.1);clear yk;replace HB:=zA ((by rw [hw];exact below_set (HB.out) sH.out:Below w0.heap.size w0 ic));replace HK:=zA (Kept.of_grown (S:=(fun k_=>d4 k_)) hg zY15 (fun k_ e_=>(de.out.1 k_ e_)));replace de:=zA (hp_);clear hg hw hp_))
   go_roundg k1
   case measure=>have:=HK1.out;omega
   case rel=>exact ⟨(jJ),(wrap64 ((wrap64 (cD+1))+1)),(wrap64 (ae+1)),zY3,zY3,H',⟨by have:=HK1.out;omega⟩,⟨zVR de.out⟩,⟨by repeat (first|(with_reducible first|exact HK.out|apply Kept.alloc|apply Kept.drewN|apply Kept.drew)|exact HK.out)⟩,⟨zB⟩⟩
def laws_markStringS.l0:Nat→List ByteArray→Int→Int→Option (Int × List ByteArray)
 | 0,_,_,_=>none
 | k+1,x0,x1,x5=>if x5 < (x0.length:Int) then ((laws_markText.f k x1).bind fun aH=>(if 0≤x5 then (laws_markStringS.l0 k (x0.set (x5:Int).toNat aH) (wrap64 (x1+1)) (wrap64 (x5+1))) else (none))) else (some (x1,x0))
def laws_markStringS.f (k:Nat) (l0:List ByteArray) (a1:Int):Option (Int × List ByteArray):=laws_markStringS.l0 k l0 a1 0
set_option maxHeartbeats 8000000 in
set_option maxRecDepth 100000 in
theorem laws_markStringS.calls (k:Nat) (d4:Nat→Prop) (u9000_:Value) (l0:List ByteArray) (a1:Int) (r1:Int) (r2:List ByteArray) (w0 w:World) (hB:Below w0.heap.size w0 w) (ar:Kd.R Kd.string 9 w w0.heap.size d4 u9000_ l0) (h:laws_markStringS.f k l0 a1=some (r1,r2)) :
 Calls Tryz.prog 85 #[u9000_,.int .i64 a1] w fun e w'=>e=.returned (.int .i64 r1)∧Kd.R Kd.string 9 w' w0.heap.size (fun k_=>(d4 k_ ∨ w.heap.size≤k_)) u9000_ r2∧Below w0.heap.size w0 w'∧Kept w w' (fun k_=>d4 k_):=by
 have yg:=zA (show Kd.R Kd.string 9 w w0.heap.size (fun k_=>(d4 k_ ∨ w.heap.size≤k_)) u9000_ l0 from Kd.z7 ar (fun k_ hk=>(.inl hk)))
 have HK:=zA (Kept.refl w (fun k_=>d4 k_))
 have HW0:=zA hB.size
 have HB:=zA hB
 clear hB
 have H:(laws_markStringS.l0 k l0 a1 0)=some (r1,r2):=h
 clear h
 have H':=zA H
 clear H
 go_enter Tryz.func85,Tryz.ntmps85
 go_wp2
 go_loopg [1,5] k (fun kq v1 v5 w'=>∃ (bY:List ByteArray) (cD:Int) (ae:Int),v1=.int .i64 cD∧v5=.int .i64 ae∧Aside0 (laws_markStringS.l0 kq bY cD ae=some (r1,r2))∧Aside0 (kq≤k)∧Aside0 (Kd.R Kd.string 9 w' w0.heap.size (fun k_=>(d4 k_ ∨ w.heap.size≤k_)) u9000_ bY)∧Aside0 (Kept w w' (fun k_=>d4 k_))∧Aside0 (Below w0.heap.size w0 w'))
 case atStart=>exact ⟨(l0),(a1),(0),zY3,zY3,H',⟨Nat.le_refl _⟩,⟨zVR yg.out⟩,⟨by repeat (first|(with_reducible first|exact HK.out|apply Kept.alloc|apply Kept.drewN|apply Kept.drew)|exact HK.out)⟩,⟨zB⟩⟩
 case round =>
  clear H'
  try clear p2
  obtain ⟨bY,cD,ae,rfl,rfl,HA,HK1,de,HK,HB⟩:=hrel
  cases gk with
  | zero=>exact absurd HA.out (by simp [laws_markStringS.l0])
  | succ k1 =>
   have H:=HA.out
   clear HA
   simp only [laws_markStringS.l0] at H
   by_cases c3:ae < (bY.length:Int)
   rotate_left
   ·rw [if_neg c3] at H
    have c3b0:decide (ae < (bY.length:Int))=false:=decide_eq_false c3
    clear c3
    simp only [Option.some.injEq,Prod.mk.injEq] at H
    obtain ⟨rfl,rfl⟩:=H
    obtain ⟨oc,iz,od⟩:=Kd.z9 de.out
    subst od
    go_wp2
    go_ret
    exact ⟨zT,by (with_reducible repeat (first|apply Kd.z1|apply Kd.z4|apply Kd.z3));exact de.out,zB,by repeat (first|(with_reducible first|exact HK.out|apply Kept.alloc|apply Kept.drewN|apply Kept.drew)|exact HK.out)⟩
   rw [if_pos c3] at H
   have c3b0:decide (ae < (bY.length:Int))=true:=decide_eq_true c3
   clear c3
   replace H:=Option.bind_eq_some_iff.mp H
   obtain ⟨aH,ci,H⟩:=H
   try dsimp only at H
   have A4:=zA ci
   clear ci
   obtain ⟨c5,H⟩:=zp H
   have c5b0:decide (0≤ae)=true:=decide_eq_true c5
   clear c5
   obtain ⟨fV,mv⟩:∃ y_:List ByteArray,y_=(bY.set (ae:Int).toNat aH):=⟨_,rfl⟩
   replace H:(laws_markStringS.l0 k1 fV (wrap64 (cD+1)) (wrap64 (ae+1)))=some (r1,r2):=zX mv H
   have yh:=zA mv
   clear mv
   have H':=zA H
   clear H
   obtain ⟨Oj,KK,KL⟩:=Kd.z9 de.out
   subst KL
   go_wp2_with (first|((with_reducible refine zq2 (f:=129) rfl ?_);refine zq4 (some 15) rfl rfl Tryz.func129 zY2 rfl #[.int .i64 cD] rfl zY0 ?_;(with_reducible refine (laws_markText.calls k1 cD aH _ A4.out).mono ?_);rintro e w8 ⟨rfl,hb⟩;refine ⟨_,rfl,?_⟩;replace de:=zA (Kd.z2 (zVR de.out) hb);replace HK:=zA (Kept.below (S:=(fun k_=>d4 k_)) zY15 hb);replace HB:=zA (zq0 zB hb);clear hb;have p6:0≤(ae:Int):=of_decide_eq_true zY1;have q6:(ae:Int) < ((bY.length:Int):Int):=of_decide_eq_true zY1;obtain ⟨en,ne,mw,qf,yi,KC,qg⟩:=Kd.R_form de.out zY6;(first|cases mw|(injection mw with ea_ en_ ec_;(first|subst ea_|(injection ea_ with ea_;subst ea_));subst ec_;clear en_));have sH:=zA qf;have KD:=zA qg;clear qf yi qg;have HMgo6:=zA (show (d4 en ∨ w.heap.size≤en) from (de.out.1 _ rfl));obtain ⟨KE,KF⟩:=Kd.R_celln bz0 de.out (ae:Int) p6 q6;replace p6:=eq_true p6;replace q6:=eq_true q6;obtain ⟨Ok,hz9_⟩:=Kd.R_celln bz0 de.out (ae:Int) (of_decide_eq_true zY1) (of_decide_eq_true zY1);have yl:=Kd.R_putg de.out (ae:Int) aH)|((with_reducible refine gate_store (t:=9) (p:=16) rfl ?_);refine store_event (t:=9) (p:=16) (v:=?vo_w10) (w1:=(w8.setCell ⟨en,(ae:Int).toNat,none⟩ (.string aH))) ?hg ?ho ?hn ?hr ?_;(case ho=>rfl);(case hg=>rfl);(case hn=>rfl);(case hr=>first|(go_simp;done)|(go_simp;rfl));intro cv hw;have hg:w8.grownBy cv (some en):=(by rw [hw];exact yl.2);have hp_:Kd.R Kd.string 9 cv w0.heap.size (fun k_=>(d4 k_ ∨ w.heap.size≤k_)) (.slice (some ⟨en,0,none⟩) bY.length KK) fV:=(by rw [hw,yh.out];exact yl.1);clear yl;replace HB:=zA ((by rw [hw];exact below_set (HB.out) sH.out:Below w0.heap.size w0 cv));replace HK:=zA (Kept.of_grown (S:=(fun k_=>d4 k_)) hg zY15 (fun k_ e_=>(de.out.1 k_ e_)));replace de:=zA (hp_);clear hg hw hp_))
   go_roundg k1
   case measure=>have:=HK1.out;omega
   case rel=>exact ⟨(fV),(wrap64 (cD+1)),(wrap64 (ae+1)),zY3,zY3,H',⟨by have:=HK1.out;omega⟩,⟨zVR de.out⟩,⟨by repeat (first|(with_reducible first|exact HK.out|apply Kept.alloc|apply Kept.drewN|apply Kept.drew)|exact HK.out)⟩,⟨zB⟩⟩
def laws_markMail.f (k:Nat) (aa:ByteArray) (ab:ByteArray) (af:List (S24)) (ap:List ByteArray) (a1:Int):Option (Int × (List (S24)) × List ByteArray):=(laws_markAddrS.f k af a1).bind fun dK=>((laws_markStringS.f k ap dK.1).bind fun iI=>(some (iI.1,dK.2,iI.2)))
set_option maxHeartbeats 8000000 in
set_option maxRecDepth 100000 in
theorem laws_markMail.calls (k:Nat) (aa:ByteArray) (ab:ByteArray) (g7:Nat→Prop) (u9000_:Value) (af:List (S24)) (g8:Nat→Prop) (u9001_:Value) (ap:List ByteArray) (a1:Int) (r1:Int) (r2:List (S24)) (r3:List ByteArray) (w0 w:World) (hB:Below w0.heap.size w0 w) (KM:Kd.R k24 24 w w0.heap.size g7 u9000_ af) (KN:Kd.R Kd.string 9 w w0.heap.size g8 u9001_ ap) (h:laws_markMail.f k aa ab af ap a1=some (r1,r2,r3)) :
 Calls Tryz.prog 42 #[.agg #[.string aa,.string ab,u9000_,u9001_],.int .i64 a1] w fun e w'=>e=.returned (.int .i64 r1)∧Kd.R k24 24 w' w0.heap.size (fun k_=>((g7 k_ ∨ g8 k_) ∨ w.heap.size≤k_)) u9000_ r2∧Kd.R Kd.string 9 w' w0.heap.size (fun k_=>((g7 k_ ∨ g8 k_) ∨ w.heap.size≤k_)) u9001_ r3∧Below w0.heap.size w0 w'∧Kept w w' (fun k_=>g7 k_ ∨ g8 k_):=by
 have hu28:=Tryz.underlying28
 have ia:=zA (show Kd.R k24 24 w w0.heap.size (fun k_=>((g7 k_ ∨ g8 k_) ∨ w.heap.size≤k_)) u9000_ af from Kd.z7 KM (fun k_ hk=>(.inl (.inl hk))))
 have ib:=zA (show Kd.R Kd.string 9 w w0.heap.size (fun k_=>((g7 k_ ∨ g8 k_) ∨ w.heap.size≤k_)) u9001_ ap from Kd.z7 KN (fun k_ hk=>(.inl (.inr hk))))
 have HK:=zA (Kept.refl w (fun k_=>g7 k_ ∨ g8 k_))
 have HW0:=zA hB.size
 have HB:=zA hB
 clear hB
 have H:((laws_markAddrS.f k af a1).bind fun dK=>((laws_markStringS.f k ap dK.1).bind fun iI=>(some (iI.1,dK.2,iI.2))))=some (r1,r2,r3):=h
 clear h
 replace H:=Option.bind_eq_some_iff.mp H
 obtain ⟨⟨ai,cn⟩,bu,H⟩:=H
 try dsimp only at H
 have A3:=zA bu
 clear bu
 replace H:=Option.bind_eq_some_iff.mp H
 obtain ⟨⟨cp,gl⟩,ci,H⟩:=H
 try dsimp only at H
 have A4:=zA ci
 clear ci
 simp only [Option.some.injEq,Prod.mk.injEq] at H
 obtain ⟨rfl,rfl,rfl⟩:=H
 obtain ⟨jg,jh,pt⟩:=Kd.z9 ia.out
 subst pt
 obtain ⟨sI,ne,mw⟩:=Kd.z9 ib.out
 subst mw
 go_enter Tryz.func42,Tryz.ntmps42
 go_wp2_with (first|((with_reducible refine zq5 (N:=2) rfl ?_);refine zE (N:=2) (cs:=#[.string aa,.string ab,.slice jg af.length jh,.slice sI ap.length ne]) (t:=28) ?_;intro aV hg w7 hbox hb;replace ia:=zA (Kd.z2 (zVR ia.out) hb);replace ib:=zA (Kd.z2 (zVR ib.out) hb);have ag:=zA hbox;have iV:=zA ((by rw [hg];exact (by first|exact HK.out.1|exact (show Kept w _ (fun k_=>g7 k_ ∨ g8 k_) from by repeat (first|(with_reducible first|exact HK.out|apply Kept.alloc|apply Kept.drewN|apply Kept.drew)|exact HK.out)).1):w.heap.size≤aV));replace HK:=zA (Kept.below (S:=(fun k_=>g7 k_ ∨ g8 k_)) zY15 hb);have lX:=zA (zS hg:w0.heap.size≤aV);replace HB:=zA (zq0 zB hb);clear hb hbox hg;obtain ⟨_,_,_,_⟩:=zc4 ag.out;obtain ⟨_,_,_,_⟩:=zf4 ag.out)|((with_reducible refine zq2 (f:=84) rfl ?_);refine zq4 (some 8) rfl rfl Tryz.func84 zY2 rfl #[.slice jg af.length jh,.int .i64 a1] rfl zY0 ?_;(with_reducible refine (laws_markAddrS.calls k (fun k_=>some k_=(.slice jg af.length jh:Value).ownBlock) (.slice jg af.length jh) af a1 ai cn w0 _ ?side1 ?side2 A3.out).mono ?_);(case side1=>exact zB);(case side2=>exact Kd.R_tight rfl ia.out);rintro e w9 ⟨rfl,fW,hb,hkp⟩;refine ⟨_,rfl,?_⟩;replace ib:=zA (Kd.z7 (ok':=fun k_=>((g7 k_ ∨ g8 k_) ∨ w.heap.size≤k_)) (Kd.R_keptB ((Kd.R_apart' ib.out (Kd.R_typed ia.out) zY4)) hkp (fun k_ hk_ hs_=>(hk_.2) hs_)) (fun k_ hk_=>hk_.1.1));replace ag:=zA (blk_kept (zK ag.out) hkp (fun hs_=>(fun e_=>(Kd.R_ne ia.out ag.out zY4) e_) hs_));replace HK:=zA (Kept.then_ (S:=(fun k_=>g7 k_ ∨ g8 k_)) zY29 hkp (fun k_ hs_=>(fun e_=>(ia.out.1 k_ e_.symm)) hs_));replace ia:=zA (Kd.R_reok rfl fW (fun k_ e_=>ia.out.1 k_ e_));replace HB:=zA (hb);clear hb hkp fW;obtain ⟨_,_,_,_⟩:=zc4 ag.out;obtain ⟨_,_,_,_⟩:=zf4 ag.out)|((with_reducible refine zq2 (f:=85) rfl ?_);refine zq4 (some 12) rfl rfl Tryz.func85 zY2 rfl #[.slice sI ap.length ne,.int .i64 ai] rfl zY0 ?_;(with_reducible refine (laws_markStringS.calls k (fun k_=>some k_=(.slice sI ap.length ne:Value).ownBlock) (.slice sI ap.length ne) ap ai cp gl w0 _ ?side1 ?side2 A4.out).mono ?_);(case side1=>exact zB);(case side2=>exact Kd.R_tight rfl ib.out);rintro e gv ⟨rfl,fW,hb,hkp⟩;refine ⟨_,rfl,?_⟩;replace ia:=zA (Kd.z7 (ok':=fun k_=>((g7 k_ ∨ g8 k_) ∨ w.heap.size≤k_)) (Kd.R_keptB ((Kd.R_apart' ia.out (Kd.R_typed ib.out) zY4)) hkp (fun k_ hk_ hs_=>(hk_.2) hs_)) (fun k_ hk_=>hk_.1.1));replace ag:=zA (blk_kept (zK ag.out) hkp (fun hs_=>(fun e_=>(Kd.R_ne ib.out ag.out zY4) e_) hs_));replace HK:=zA (Kept.then_ (S:=(fun k_=>g7 k_ ∨ g8 k_)) zY29 hkp (fun k_ hs_=>(fun e_=>(ib.out.1 k_ e_.symm)) hs_));replace ib:=zA (Kd.R_reok rfl fW (fun k_ e_=>ib.out.1 k_ e_));replace HB:=zA (hb);clear hb hkp fW))
 go_ret
 exact ⟨zT,by (with_reducible repeat (first|apply Kd.z1|apply Kd.z4|apply Kd.z3));exact ia.out,by (with_reducible repeat (first|apply Kd.z1|apply Kd.z4|apply Kd.z3));exact ib.out,zB,by repeat (first|(with_reducible first|exact HK.out|apply Kept.alloc|apply Kept.drewN|apply Kept.drew|refine Kept.setCell ?_ (.inr iV.out) _)|exact HK.out)⟩
def laws_markNote.f (k:Nat) (aa:Int) (ab:Int) (aC:ByteArray) (aD:ByteArray) (aE:Int) (av:ByteArray) (aw:ByteArray) (al:List (S24)) (an:List ByteArray) (a1:Int):Option (Int × (List (S24)) × List ByteArray):=(laws_markMail.f k av aw al an a1).bind fun dK=>(some (dK.1,dK.2.1,dK.2.2))
set_option maxHeartbeats 8000000 in
set_option maxRecDepth 100000 in
theorem laws_markNote.calls (k:Nat) (aa:Int) (ab:Int) (aC:ByteArray) (aD:ByteArray) (aE:Int) (av:ByteArray) (aw:ByteArray) (jk:Nat→Prop) (u9000_:Value) (al:List (S24)) (jl:Nat→Prop) (u9001_:Value) (an:List ByteArray) (a1:Int) (r1:Int) (r2:List (S24)) (r3:List ByteArray) (w0 w:World) (hB:Below w0.heap.size w0 w) (KO:Kd.R k24 24 w w0.heap.size jk u9000_ al) (KP:Kd.R Kd.string 9 w w0.heap.size jl u9001_ an) (h:laws_markNote.f k aa ab aC aD aE av aw al an a1=some (r1,r2,r3)) :
 Calls Tryz.prog 16 #[.agg #[.int .i64 aa,.int .i64 ab,.string aC,.string aD,.int .i64 aE,.string av,.string aw,u9000_,u9001_],.int .i64 a1] w fun e w'=>e=.returned (.int .i64 r1)∧Kd.R k24 24 w' w0.heap.size (fun k_=>((jk k_ ∨ jl k_) ∨ w.heap.size≤k_)) u9000_ r2∧Kd.R Kd.string 9 w' w0.heap.size (fun k_=>((jk k_ ∨ jl k_) ∨ w.heap.size≤k_)) u9001_ r3∧Below w0.heap.size w0 w'∧Kept w w' (fun k_=>jk k_ ∨ jl k_):=by
 have hu30:=Tryz.underlying30
 have hu28:=Tryz.underlying28
 have kc:=zA (show Kd.R k24 24 w w0.heap.size (fun k_=>((jk k_ ∨ jl k_) ∨ w.heap.size≤k_)) u9000_ al from Kd.z7 KO (fun k_ hk=>(.inl (.inl hk))))
 have kd:=zA (show Kd.R Kd.string 9 w w0.heap.size (fun k_=>((jk k_ ∨ jl k_) ∨ w.heap.size≤k_)) u9001_ an from Kd.z7 KP (fun k_ hk=>(.inl (.inr hk))))
 have HK:=zA (Kept.refl w (fun k_=>jk k_ ∨ jl k_))
 have HW0:=zA hB.size
 have HB:=zA hB
 clear hB
 have H:((laws_markMail.f k av aw al an a1).bind fun dK=>(some (dK.1,dK.2.1,dK.2.2)))=some (r1,r2,r3):=h
 clear h
 replace H:=Option.bind_eq_some_iff.mp H
 obtain ⟨⟨ai,cn,cp⟩,bu,H⟩:=H
 try dsimp only at H
 have A3:=zA bu
 clear bu
 simp only [Option.some.injEq,Prod.mk.injEq] at H
 obtain ⟨rfl,rfl,rfl⟩:=H
 obtain ⟨lN,lO,uv⟩:=Kd.z9 kc.out
 subst uv
 obtain ⟨jg,jh,pt⟩:=Kd.z9 kd.out
 subst pt
 go_enter Tryz.func16,Tryz.ntmps16
 go_wp2_with (first|((with_reducible refine zq5 (N:=2) rfl ?_);refine zE (N:=2) (cs:=#[.int .i64 aa,.int .i64 ab,.string aC,.string aD,.int .i64 aE,.string av,.string aw,.slice lN al.length lO,.slice jg an.length jh]) (t:=30) ?_;intro aV hg w6 hbox hb;replace kc:=zA (Kd.z2 (zVR kc.out) hb);replace kd:=zA (Kd.z2 (zVR kd.out) hb);have ag:=zA hbox;have iV:=zA ((by rw [hg];exact (by first|exact HK.out.1|exact (show Kept w _ (fun k_=>jk k_ ∨ jl k_) from by repeat (first|(with_reducible first|exact HK.out|apply Kept.alloc|apply Kept.drewN|apply Kept.drew)|exact HK.out)).1):w.heap.size≤aV));replace HK:=zA (Kept.below (S:=(fun k_=>jk k_ ∨ jl k_)) zY15 hb);have lX:=zA (zS hg:w0.heap.size≤aV);replace HB:=zA (zq0 zB hb);clear hb hbox hg;obtain ⟨_,_,_,_,_,_,_,_,_⟩:=zc9 ag.out;obtain ⟨_,_,_,_,_,_,_,_,_⟩:=zf9 ag.out)|((with_reducible refine zq2 (f:=42) rfl ?_);refine zq4 (some 8) rfl rfl Tryz.func42 zY2 rfl #[.agg #[.string av,.string aw,.slice lN al.length lO,.slice jg an.length jh],.int .i64 a1] rfl zY0 ?_;(with_reducible refine (laws_markMail.calls k av aw (fun k_=>some k_=(.slice lN al.length lO:Value).ownBlock) (.slice lN al.length lO) al (fun k_=>some k_=(.slice jg an.length jh:Value).ownBlock) (.slice jg an.length jh) an a1 ai cn cp w0 _ ?side1 ?side2 ?side3 A3.out).mono ?_);(case side1=>exact zB);(case side2=>exact Kd.R_tight rfl kc.out);(case side3=>exact Kd.R_tight rfl kd.out);rintro e w8 ⟨rfl,fW,iO,hb,hkp⟩;refine ⟨_,rfl,?_⟩;replace ag:=zA (blk_kept (zK ag.out) hkp (fun hs_=>Or.elim hs_ (fun e_=>(fun e_=>(Kd.R_ne kc.out ag.out zY4) e_) e_) (fun e_=>(fun e_=>(Kd.R_ne kd.out ag.out zY4) e_) e_)));replace HK:=zA (Kept.then_ (S:=(fun k_=>jk k_ ∨ jl k_)) zY29 hkp (fun k_ hs_=>Or.elim hs_ (fun e_=>(fun e_=>(kc.out.1 k_ e_.symm)) e_) (fun e_=>(fun e_=>(kd.out.1 k_ e_.symm)) e_)));replace kc:=zA (Kd.R_reok rfl fW (fun k_ e_=>kc.out.1 k_ e_));replace kd:=zA (Kd.R_reok rfl iO (fun k_ e_=>kd.out.1 k_ e_));replace HB:=zA (hb);clear hb hkp fW iO))
 go_ret
 exact ⟨zT,by (with_reducible repeat (first|apply Kd.z1|apply Kd.z4|apply Kd.z3));exact kc.out,by (with_reducible repeat (first|apply Kd.z1|apply Kd.z4|apply Kd.z3));exact kd.out,zB,by repeat (first|(with_reducible first|exact HK.out|apply Kept.alloc|apply Kept.drewN|apply Kept.drew|refine Kept.setCell ?_ (.inr iV.out) _)|exact HK.out)⟩
end Go.Proofs.YtjdpdkdhfnpcgaaGreatDoor.Q
