/- Of a text of ours what this claim needs. -/
import Derived.Test.YtjdpdkdhfnpcgaaGreatDoorZzFnNoteGetTM
set_option maxHeartbeats 8000000
set_option maxRecDepth 100000
namespace Go.Proofs.YtjdpdkdhfnpcgaaGreatDoor.Q
open Go.RowKit Go.Proofs.YtjdpdkdhfnpcgaaGreatDoorW.PrintWords Go.Proofs.YtjdpdkdhfnpcgaaGreatDoorW.PrintLast Go.Proofs.YtjdpdkdhfnpcgaaGreatDoorW.PrintMore Tryz
attribute [local go_sem] max2_int min2_int max_two min_two max_three min_three max_four min_four
set_option linter.unusedVariables false
set_option linter.unusedSimpArgs false
theorem eqA24 (d:Nat)(w:World)(x0 y0:ByteArray)(x1 y1:ByteArray) :
 (Op.equalIn (d+2) 24 (.agg #[.string x0,.string x1]) (.agg #[.string y0,.string y1])).run prog w=.ok (x0.toList==y0.toList && (x1.toList==y1.toList)) w:=by
 refine eqA_of underlying24 zY1 ?_;refine eqf_cons zY19 (by go_simp;rfl) (by go_simp;rfl) (by go_simp) ?_;exact eqf_last zY19 (by go_simp;rfl) (by go_simp;rfl) (by go_simp)
def yaN.f (ag:ByteArray)(ah:ByteArray):Option (Bool):=if ag.toList=([]:List UInt8)then(some (ah.toList==([]:List UInt8)))else(some false)
theorem yaN.calls (ag:ByteArray)(ah:ByteArray)(r:Bool)(w:World)(h:yaN.f ag ah=some r) :
 Calls prog 56 #[.agg #[.string ag,.string ah]] w fun e w'=>e=.returned (.bool r)∧Below w.heap.size w w':=by
 have hu24:=underlying24;have HB:=zA (Below.refl w.heap.size w);have H:=h;clear h;unfold yaN.f at H;obtain⟨⟨c2b0,c2b1,c2⟩,H⟩|⟨⟨c2b0,c2b1⟩,H⟩:=zf H zkQNqnk zkQqn
 ·obtain rfl:=zs H;go_enter func56,ntmps56;(go_wp2_with (first|((with_reducible refine zq6 (N:=1) rfl ?_);refine zEa (N:=1) (cs:=#[.string ag,.string ah]) (t:=24) ?_;intro dt hg w5 bC hb;have lq:=zA (zS hg:w.heap.size≤dt);have lr:=zA (zS hg:w.heap.size≤dt);replace HB:=zhb hb;clear hb hg;obtain⟨_,_⟩:=zc2 bC.out;obtain⟨_,_⟩:=zf2 bC.out)));go_ret;exact⟨zT,zB⟩
 obtain rfl:=zs H;go_enter func56,ntmps56;go_wp2_with (first|((with_reducible refine zq6 (N:=1) rfl ?_);refine zEa (N:=1) (cs:=#[.string ag,.string ah]) (t:=24) ?_;intro dt hg w3 bC hb;have lq:=zA (zS hg:w.heap.size≤dt);have lr:=zA (zS hg:w.heap.size≤dt);replace HB:=zhb hb;clear hb hg;obtain⟨_,_⟩:=zc2 bC.out;obtain⟨_,_⟩:=zf2 bC.out))
 go_ret;exact⟨zT,zB⟩
def yaz.f (a0:Int)(a1:Int)(a2:Int):Option (Bool):=if a0≥a1 then(some (decide (a0≤a2)))else(some false)
theorem yaz.calls (a0:Int)(a1:Int)(a2:Int)(r:Bool)(w:World)(h:yaz.f a0 a1 a2=some r) :
 Calls prog 58 #[.int .i64 a0,.int .i64 a1,.int .i64 a2] w fun e w'=>e=.returned (.bool r)∧Drawn0 w w':=by
 have H:=h;clear h;unfold yaz.f at H;obtain⟨c4b0,H⟩|⟨c4b0,H⟩:=zh H zkEg zkENg
 ·obtain rfl:=zs H;go_enter func58,ntmps58;go_wp2;go_ret;exact⟨by first|rfl|(simp;done)|(simp[*];done),by repeat(first|exact Drawn0.refl _|apply Drawn0.step)⟩
 obtain rfl:=zs H;go_enter func58,ntmps58;go_wp2;go_ret;exact⟨by first|rfl|(simp;done)|(simp[*];done),by repeat(first|exact Drawn0.refl _|apply Drawn0.step)⟩
def yaI.l0:Nat→ByteArray→Int→Option (Bool)
 | 0,_,_=>none
 | k+1,x0,x3=>if x3<(x0.size:Int)then(if 0≤x3 then(if(bt x0 x3)<97 then(if(bt x0 x3)<48 then(some false)else(if(bt x0 x3)>57 then(some false)else(yaI.l0 k x0 (wrap64 (x3+1)))))else(if(bt x0 x3)>122 then(if(bt x0 x3)<48 then(some false)else(if(bt x0 x3)>57 then(some false)else(yaI.l0 k x0 (wrap64 (x3+1)))))else(yaI.l0 k x0 (wrap64 (x3+1)))))else(none))else((yaz.f (x0.size:Int) 1 8).bind fun dk=>(some dk))
def yaI.f (k:Nat)(a0:ByteArray):Option (Bool):=yaI.l0 k a0 0
theorem yaI.calls (k:Nat)(a0:ByteArray)(r:Bool)(w:World)(h:yaI.f k a0=some r) :
 Calls prog 108 #[.string a0] w fun e w'=>e=.returned (.bool r)∧Drawn0 w w':=by
 have H:=h;clear h;unfold yaI.f at H;have H':=zA H;clear H;go_enter func108,ntmps108;go_wp2;go_loopg [3] k (fun kq v3 w'=>∃(av:Int),v3=.int .i64 av∧Aside0 (yaI.l0 kq a0 av=some r)∧Aside0 (kq≤k)∧Drawn0 w w')
 case atStart=>exact⟨(0),zY3,H',⟨Nat.le_refl _⟩,by repeat(first|exact Drawn0.refl _|apply Drawn0.step)⟩
 case round =>
  clear H';obtain⟨av,rfl,HA,HK1,⟨m1,rfl⟩⟩:=hrel;cases gk with
  | zero=>exact absurd HA.out (by simp[yaI.l0])
  | succ k1 =>
   have H:=HA.out;clear HA;simp only[yaI.l0]at H;obtain⟨c2b0,H⟩|⟨c2b0,H⟩:=zf H zkNd zkd
   ·obtain⟨dk,lu,H⟩:=zM H;obtain rfl:=zs H;(go_wp2_with (first|((with_reducible refine zq2 (f:=58) rfl ?_);refine zq7 (some 34) rfl rfl func58 zY1 rfl #[.int .i64 (a0.size:Int),.int .i64 1,.int .i64 8] rfl zY0 ?_;(with_reducible refine(yaz.calls (a0.size:Int) 1 8 dk _ lu.out).mono ?_);rintro e w' ⟨rfl,⟨nd,rfl⟩⟩;refine⟨_,rfl,?_⟩)));go_ret;exact⟨by first|rfl|(simp;done)|(simp[*];done),by repeat(first|exact Drawn0.refl _|apply Drawn0.step)⟩
   obtain⟨c3b0,H⟩:=zp H zkd;obtain⟨c5b0,H⟩|⟨c5b0,H⟩:=zh H zkd zkNd
   ·obtain⟨c7b0,H⟩|⟨c7b0,H⟩:=zh H zkd zkNd
    ·obtain rfl:=zs H;have p4:0≤(av:Int):=zw;have q4:av<(a0.size:Int):=zw;have kx:=bt_at a0 av;replace p4:=eq_true p4;replace q4:=eq_true q4;have p6:0≤(av:Int):=zw;have q6:av<(a0.size:Int):=zw;have pI:=bt_at a0 av;replace p6:=eq_true p6;replace q6:=eq_true q6;go_wp2;go_ret;exact⟨by first|rfl|(simp;done)|(simp[*];done),by repeat(first|exact Drawn0.refl _|apply Drawn0.step)⟩
    obtain⟨c9b0,H⟩|⟨c9b0,H⟩:=zh H zkGg zkGNg
    ·obtain rfl:=zs H;have p4:0≤(av:Int):=zw;have q4:av<(a0.size:Int):=zw;have kx:=bt_at a0 av;replace p4:=eq_true p4;replace q4:=eq_true q4;have p6:0≤(av:Int):=zw;have q6:av<(a0.size:Int):=zw;have pI:=bt_at a0 av;replace p6:=eq_true p6;replace q6:=eq_true q6;have p8:0≤(av:Int):=zw;have q8:av<(a0.size:Int):=zw;have As:=bt_at a0 av;replace p8:=eq_true p8;replace q8:=eq_true q8;go_wp2;go_ret;exact⟨by first|rfl|(simp;done)|(simp[*];done),by repeat(first|exact Drawn0.refl _|apply Drawn0.step)⟩
    have H':=zA H;clear H;have p4:0≤(av:Int):=zw;have q4:av<(a0.size:Int):=zw;have kx:=bt_at a0 av;replace p4:=eq_true p4;replace q4:=eq_true q4;have p6:0≤(av:Int):=zw;have q6:av<(a0.size:Int):=zw;have pI:=bt_at a0 av;replace p6:=eq_true p6;replace q6:=eq_true q6;have p8:0≤(av:Int):=zw;have q8:av<(a0.size:Int):=zw;have As:=bt_at a0 av;replace p8:=eq_true p8;replace q8:=eq_true q8;go_wp2;go_roundg k1;(case measure=>have:=HK1.out;omega);case rel=>exact⟨(wrap64 (av+1)),zY3,H',⟨by have:=HK1.out;omega⟩,by repeat(first|exact Drawn0.refl _|apply Drawn0.step)⟩
   obtain⟨c11b0,H⟩|⟨c11b0,H⟩:=zf H zkGNg zkGg
   ·have H':=zA H;clear H;have p4:0≤(av:Int):=zw;have q4:av<(a0.size:Int):=zw;have kx:=bt_at a0 av;replace p4:=eq_true p4;replace q4:=eq_true q4;have lv:0≤(av:Int):=zw;have lw:av<(a0.size:Int):=zw;have At:=bt_at a0 av;replace lv:=eq_true lv;replace lw:=eq_true lw;go_wp2;go_roundg k1;(case measure=>have:=HK1.out;omega);case rel=>exact⟨(wrap64 (av+1)),zY3,H',⟨by have:=HK1.out;omega⟩,by repeat(first|exact Drawn0.refl _|apply Drawn0.step)⟩
   obtain⟨c13b0,H⟩|⟨c13b0,H⟩:=zh H zkd zkNd
   ·obtain rfl:=zs H;have p4:0≤(av:Int):=zw;have q4:av<(a0.size:Int):=zw;have kx:=bt_at a0 av;replace p4:=eq_true p4;replace q4:=eq_true q4;have lv:0≤(av:Int):=zw;have lw:av<(a0.size:Int):=zw;have At:=bt_at a0 av;replace lv:=eq_true lv;replace lw:=eq_true lw;have jG:0≤(av:Int):=zw;have jH:av<(a0.size:Int):=zw;have wX:=bt_at a0 av;replace jG:=eq_true jG;replace jH:=eq_true jH;go_wp2;go_ret;exact⟨by first|rfl|(simp;done)|(simp[*];done),by repeat(first|exact Drawn0.refl _|apply Drawn0.step)⟩
   obtain⟨c15b0,H⟩|⟨c15b0,H⟩:=zh H zkGg zkGNg
   ·obtain rfl:=zs H;have p4:0≤(av:Int):=zw;have q4:av<(a0.size:Int):=zw;have kx:=bt_at a0 av;replace p4:=eq_true p4;replace q4:=eq_true q4;have lv:0≤(av:Int):=zw;have lw:av<(a0.size:Int):=zw;have At:=bt_at a0 av;replace lv:=eq_true lv;replace lw:=eq_true lw;have jG:0≤(av:Int):=zw;have jH:av<(a0.size:Int):=zw;have wX:=bt_at a0 av;replace jG:=eq_true jG;replace jH:=eq_true jH;have mx:0≤(av:Int):=zw;have my:av<(a0.size:Int):=zw;have Au:=bt_at a0 av;replace mx:=eq_true mx;replace my:=eq_true my;go_wp2;go_ret;exact⟨by first|rfl|(simp;done)|(simp[*];done),by repeat(first|exact Drawn0.refl _|apply Drawn0.step)⟩
   have H':=zA H;clear H;have p4:0≤(av:Int):=zw;have q4:av<(a0.size:Int):=zw;have kx:=bt_at a0 av;replace p4:=eq_true p4;replace q4:=eq_true q4;have lv:0≤(av:Int):=zw;have lw:av<(a0.size:Int):=zw;have At:=bt_at a0 av;replace lv:=eq_true lv;replace lw:=eq_true lw;have jG:0≤(av:Int):=zw;have jH:av<(a0.size:Int):=zw;have wX:=bt_at a0 av;replace jG:=eq_true jG;replace jH:=eq_true jH;have mx:0≤(av:Int):=zw;have my:av<(a0.size:Int):=zw;have Au:=bt_at a0 av;replace mx:=eq_true mx;replace my:=eq_true my;go_wp2;go_roundg k1;(case measure=>have:=HK1.out;omega);case rel=>exact⟨(wrap64 (av+1)),zY3,H',⟨by have:=HK1.out;omega⟩,by repeat(first|exact Drawn0.refl _|apply Drawn0.step)⟩
mutual
def yan.l0:Nat→ByteArray→Int→Int→List ByteArray→Int→Int→Option (List ByteArray)
 | 0,_,_,_,_,_,_=>none
 | k+1,x0,x1,x2,x7,x8,x9=>if x9<(x0.size:Int)then(yan.j1 k x0 x1 x2 x7 x8 x9 (decide ((x7.length:Int)<x2)))else(yan.j1 k x0 x1 x2 x7 x8 x9 false)
def yan.j1:Nat→ByteArray→Int→Int→List ByteArray→Int→Int→Bool→Option (List ByteArray)
 | 0,_,_,_,_,_,_,_=>none
 | k+1,x0,x1,x2,x7,x8,x9,KG=>if KG=true then(if 0≤x9 then(if x9<(x0.size:Int)then(if(bt x0 x9)=x1 then(if 0≤x8 then(if x8≤x9 then(if x9≤(x0.size:Int)then(if x7.length<8796093022208 then(yan.l0 k x0 x1 x2 (x7++[x0.extract (x8:Int).toNat (x9:Int).toNat]) (wrap64 (x9+1)) (wrap64 (x9+1)))else(none))else(none))else(none))else(none))else(yan.l0 k x0 x1 x2 x7 x8 (wrap64 (x9+1))))else(none))else(none))else(if 0≤x8 then(if x8≤(x0.size:Int)then(if x7.length<8796093022208 then(some (x7++[x0.extract (x8:Int).toNat x0.size]))else(none))else(none))else(none))
end
def yan.f (k:Nat)(a0:ByteArray)(a1:Int)(a2:Int):Option (List ByteArray):=yan.l0 k a0 a1 a2 (([]:List ByteArray)) 0 0
theorem yan.calls (k:Nat)(a0:ByteArray)(a1:Int)(a2:Int)(r:List ByteArray)(w:World)(h:yan.f k a0 a1 a2=some r) :
 Calls prog 78 #[.string a0,.int .u8 a1,.int .i64 a2] w fun e w'=>∃ gJ:Value,e=.returned (gJ)∧Kd.R Kd.string 9 w' w.heap.size (fun _=>True) gJ r∧Below w.heap.size w w':=by
 have HB:=zA (Below.refl w.heap.size w);have H:=h;clear h;unfold yan.f at H;obtain⟨FU,Av⟩:∃ y_:List ByteArray,y_=(([]:List ByteArray)):=⟨_,rfl⟩;replace H:(yan.l0 k a0 a1 a2 FU 0 0)=some r:=zX Av H;have FV:=zA Av;clear Av;have H':=zA H;clear H;go_enter func78,ntmps78;go_wp2_with (first|((with_reducible refine zq6 (N:=10) rfl ?_);(try(refine gate_guard zY19 ?_;dsimp only));refine Kd.R_lit Kd.string _ 9 ?hg (N:=10) ?hd (xs:=([]:List ByteArray)) (inner:=[]) (ok:=fun _=>True) (okp:=fun _=>True) ?hr ?hp (fun _ hk=>hk) trivial (Below.refl _ _) (Nat.le_refl _) zY13 ?_;(case hd=>rfl);(case hg=>rfl);(case hr=>first|(go_simp;done)|(go_simp;rfl));(case hp=>exact(Reps.none _ _));intro KH w4 lx hb hg_ hnew_;clear hg_ hnew_;(first|rw[← FV.out]at lx|(simp only[Int.reduceToNat]at lx;rw[← FV.out]at lx));have tK:=zA (Kd.z5 lx (zq3 zB));replace HB:=zhb hb;clear hb lx))
 go_loopg [7,8,9] k (fun kq v7 v8 v9 w'=>∃(bT:List ByteArray) (bf:Int) (io:Int),v8=.int .i64 bf∧v9=.int .i64 io∧Aside0 (yan.l0 kq a0 a1 a2 bT bf io=some r)∧Aside0 (kq≤k)∧Aside0 (Kd.R Kd.string 9 w' w.heap.size (fun _=>True) v7 bT)∧Aside0 (Below w.heap.size w w'))
 case atStart=>exact⟨(FU),(0),(0),zY3,zY3,H',⟨Nat.le_refl _⟩,⟨zVR tK.out⟩,⟨zB⟩⟩
 case round =>
  clear H';obtain⟨bT,bf,io,rfl,rfl,HA,HK1,nn,HB⟩:=hrel;cases gk with
  | zero=>exact absurd HA.out (by simp[yan.l0])
  | succ k1 =>
   have H:=HA.out;clear HA;simp only[yan.l0]at H;have jt:=zA H;clear H;(go_upto_region 4 with (fail));go_cut [20] (fun KI wc=>∃(kq:Nat) (Aw:Bool),KI=.bool Aw∧Aside0 (yan.j1 kq a0 a1 a2 bT bf io Aw=some r)∧Aside0 (kq≤k1)∧Aside0 (Kd.R Kd.string 9 wc w.heap.size (fun _=>True) u7 bT)∧Aside0 (Below w.heap.size w wc))
   case first =>
    have H:=jt.out;clear jt;replace H:=zf H zkNd zkd;obtain⟨c7b0,H⟩|⟨c7b0,H⟩:=H
    ·(first|rw[c7b0]|(simp only[i64_w,i32_w];rw[c7b0])|skip);have H':=zA H;clear H;go_wp2;go_meet;case rel=>exact⟨_,(false),zY3,H',⟨by have:=HK1.out;first|omega|exact Nat.le_refl _⟩,⟨zVR nn.out⟩,⟨zB⟩⟩
    (first|rw[c7b0]|(simp only[i64_w,i32_w];rw[c7b0])|skip);have H':=zA H;clear H;obtain⟨FW,wY,tL⟩:=Kd.z8 nn.out;subst tL;go_wp2;go_meet;case rel=>exact⟨_,(decide ((bT.length:Int)<a2)),zY3,H',⟨by have:=HK1.out;first|omega|exact Nat.le_refl _⟩,⟨zVR nn.out⟩,⟨zB⟩⟩
   case rest =>
    clear jt;obtain⟨kq,Aw,rfl,HA,HJ5,nn,HB⟩:=hcut;cases kq with
    | zero=>exact absurd HA.out (by simp[yan.j1])
    | succ kj5 =>
     have H:=HA.out;clear HA;simp only[yan.j1]at H;replace H:=zb H;obtain⟨rfl,H⟩|⟨rfl,H⟩:=H
     ·replace H:=zp H zktd;obtain⟨⟨c19b0,c19b1⟩,H⟩:=H;replace H:=zp H zktd;obtain⟨⟨c20b0,c20b1⟩,H⟩:=H;replace H:=zp H zA;obtain⟨LMc21,H⟩:=H;obtain⟨KJ,Ax⟩:∃ y_:List ByteArray,y_=(bT++[a0.extract (bf:Int).toNat a0.size]):=⟨_,rfl⟩;replace H:(some KJ)=some r:=zX Ax H;have KK:=zA Ax;clear Ax;obtain rfl:=zs H;(go_wp2_with (first|((with_reducible refine gate_builtin (b:=.append) (xs:=#[.tmp 37,.tmp 41]) rfl ?_);(try(refine gate_guard zY19 ?_;dsimp only));at_builtin;refine Kd.R_append Kd.string (w0:=w) w.heap.size rfl (.tmp 37) (.tmp 41) 26 9 (.string ⟨#[]⟩) 16 rfl underlying26 info9 rfl zY2 zY7 u7 bT (a0.extract (bf:Int).toNat a0.size) [.string (a0.extract (bf:Int).toNat a0.size)] (fun _=>True) (fun _=>False) rfl rfl ?aP (fun _ hk=>hk.elim) ?aF ?aO ?aB ?aS ?aL ?_;(case aP=>exact rfl);(case aB=>exact zB);(case aF=>exact(fun _ _=>trivial));(case aO=>exact(zVR nn.out));(case aS=>exact(zq3 zB));(case aL=>have:=LMc21.out;omega);intro VW wZ ho hb hg hat;rw[← KK.out]at ho;have am:=zA (hb);have an:=zA (ho);clear HB nn;have HB:=am;have KL:=an;clear am an ho hb hg hat)));go_ret;exact⟨_,zT,by(with_reducible repeat(first|apply Kd.R_alloc|apply Kd.R_drewN|apply Kd.R_drew));exact KL.out,zB⟩
     replace H:=zp H zkd;obtain⟨c10b0,H⟩:=H;replace H:=zp H zkd;obtain⟨c11b0,H⟩:=H;replace H:=zf H zkQNqnk zkQqn;obtain⟨⟨c13b0,c13b1,ip⟩,H⟩|⟨⟨c13b0,c13b1⟩,H⟩:=H
     ·have H':=zA H;clear H;have jG:0≤(io:Int):=zw;have jH:io<(a0.size:Int):=zw;have wX:=bt_at a0 io;replace jG:=eq_true jG;replace jH:=eq_true jH;go_wp2;go_roundg kj5;(case measure=>have:=HK1.out;have:=HJ5.out;omega);case rel=>exact⟨(bT),(bf),(wrap64 (io+1)),zY3,zY3,H',⟨by have:=HK1.out;have:=HJ5.out;omega⟩,⟨zVR nn.out⟩,⟨zB⟩⟩
     replace H:=zp H zktd;obtain⟨⟨c14b0,c14b1⟩,H⟩:=H;replace H:=zp H zktd;obtain⟨⟨c15b0,c15b1⟩,H⟩:=H;replace H:=zp H zktd;obtain⟨⟨c16b0,c16b1⟩,H⟩:=H;replace H:=zp H zA;obtain⟨LMc17,H⟩:=H;obtain⟨FX,Ay⟩:∃ y_:List ByteArray,y_=(bT++[a0.extract (bf:Int).toNat (io:Int).toNat]):=⟨_,rfl⟩;replace H:(yan.l0 kj5 a0 a1 a2 FX (wrap64 (io+1)) (wrap64 (io+1)))=some r:=zX Ay H;have KM:=zA Ay;clear Ay;have H':=zA H;clear H;have jG:0≤(io:Int):=zw;have jH:io<(a0.size:Int):=zw;have wX:=bt_at a0 io;replace jG:=eq_true jG;replace jH:=eq_true jH;(go_wp2_with (first|((with_reducible refine gate_builtin (b:=.append) (xs:=#[.tmp 28,.tmp 33]) rfl ?_);(try(refine gate_guard zY19 ?_;dsimp only));at_builtin;refine Kd.R_append Kd.string (w0:=w) w.heap.size rfl (.tmp 28) (.tmp 33) 26 9 (.string ⟨#[]⟩) 16 rfl underlying26 info9 rfl zY2 zY7 u7 bT (a0.extract (bf:Int).toNat (io:Int).toNat) [.string (a0.extract (bf:Int).toNat (io:Int).toNat)] (fun _=>True) (fun _=>False) rfl rfl ?aP (fun _ hk=>hk.elim) ?aF ?aO ?aB ?aS ?aL ?_;(case aP=>exact rfl);(case aB=>exact zB);(case aF=>exact(fun _ _=>trivial));(case aO=>exact(zVR nn.out));(case aS=>exact(zq3 zB));(case aL=>have:=LMc17.out;omega);intro VX kW ho hb hg hat;rw[← KM.out]at ho;have am:=zA (hb);have an:=zA (ho);clear HB nn;have HB:=am;have KN:=an;clear am an ho hb hg hat)));go_roundg kj5;(case measure=>have:=HK1.out;have:=HJ5.out;omega);case rel=>exact⟨(FX),(wrap64 (io+1)),(wrap64 (io+1)),zY3,zY3,H',⟨by have:=HK1.out;have:=HJ5.out;omega⟩,⟨zVR KN.out⟩,⟨zB⟩⟩
def yaS.l0:Nat→List ByteArray→Int→Option (Bool)
 | 0,_,_=>none
 | k+1,x3,x4=>if x4<(x3.length:Int)then(if 0≤x4 then((yaI.f k (rdOf ByteArray.empty x3 x4)).bind fun pJ=>(if pJ=true then(yaS.l0 k x3 (wrap64 (x4+1)))else(some false)))else(none))else(some (decide ((x3.length:Int)≤3)))
def yaS.f (k:Nat)(a0:ByteArray):Option (Bool):=(yan.f k a0 46 3).bind fun dy=>(yaS.l0 k dy 0)
theorem yaS.calls (k:Nat)(a0:ByteArray)(r:Bool)(w:World)(h:yaS.f k a0=some r) :
 Calls prog 109 #[.string a0] w fun e w'=>e=.returned (.bool r)∧Below w.heap.size w w':=by
 have HB:=zA (Below.refl w.heap.size w);have H:=h;clear h;unfold yaS.f at H;replace H:=zM H;obtain⟨dy,A2,H⟩:=H;have H':=zA H;clear H;go_enter func109,ntmps109;go_wp2_with (first|((with_reducible refine zq2 (f:=78) rfl ?_);refine zq7 (some 6) rfl rfl func78 zY1 rfl #[.string a0,.int .u8 46,.int .i64 3] rfl zY0 ?_;(with_reducible refine(yan.calls k a0 46 3 dy _ A2.out).mono ?_);rintro e w3 ⟨KO,rfl,ap,hb⟩;refine⟨_,rfl,?_⟩;have KP:=zA (Kd.z5 ap (zq3 zB));replace HB:=zhb hb;clear hb ap))
 go_loopg [4] k (fun kq v4 w'=>∃(aD:Int),v4=.int .i64 aD∧Aside0 (yaS.l0 kq dy aD=some r)∧Aside0 (kq≤k)∧Aside0 (Kd.R Kd.string 9 w' w.heap.size (fun _=>True) KO dy)∧Aside0 (Below w.heap.size w w'))
 case atStart=>exact⟨(0),zY3,H',⟨Nat.le_refl _⟩,⟨zVR KP.out⟩,⟨zB⟩⟩
 case round =>
  clear H';obtain⟨aD,rfl,HA,HK1,fW,HB⟩:=hrel;cases gk with
  | zero=>exact absurd HA.out (by simp[yaS.l0])
  | succ k1 =>
   have H:=HA.out;clear HA;simp only[yaS.l0]at H;replace H:=zf H zkNd zkd;obtain⟨c4b0,H⟩|⟨c4b0,H⟩:=H
   ·obtain rfl:=zs H;obtain⟨sa,pK,tM⟩:=Kd.z8 fW.out;subst tM;go_wp2;go_ret;exact⟨zT,zB⟩
   replace H:=zp H zkd;obtain⟨c5b0,H⟩:=H;replace H:=zM H;obtain⟨pJ,A6,H⟩:=H;replace H:=zb H;obtain⟨rfl,H⟩|⟨rfl,H⟩:=H
   ·obtain rfl:=zs H;obtain⟨VY,VZ,KQ⟩:=Kd.z8 fW.out;subst KQ;have pL:0≤(aD:Int):=zw;have pM:aD<(dy.length:Int):=zw;obtain⟨KR,Az,KS⟩:=Kd.z16 (Kd.z7 fW.out).2.2 aD pL pM;cases Az;replace pL:=eq_true pL;replace pM:=eq_true pM;(go_wp2_with (first|((with_reducible refine zq2 (f:=108) rfl ?_);refine zq7 (some 17) rfl rfl func108 zY1 rfl #[.string (rdOf ByteArray.empty dy aD)] rfl zY0 ?_;(with_reducible refine(yaI.calls k1 (rdOf ByteArray.empty dy aD) false _ A6.out).mono ?_);rintro e w' ⟨rfl,⟨nd,rfl⟩⟩;refine⟨_,rfl,?_⟩)));go_ret;exact⟨zT,zB⟩
   have H':=zA H;clear H;obtain⟨FW,wY,tL⟩:=Kd.z8 fW.out;subst tL;have pL:0≤(aD:Int):=zw;have pM:aD<(dy.length:Int):=zw;obtain⟨KR,Az,KS⟩:=Kd.z16 (Kd.z7 fW.out).2.2 aD pL pM;cases Az;replace pL:=eq_true pL;replace pM:=eq_true pM;(go_wp2_with (first|((with_reducible refine zq2 (f:=108) rfl ?_);refine zq7 (some 17) rfl rfl func108 zY1 rfl #[.string (rdOf ByteArray.empty dy aD)] rfl zY0 ?_;(with_reducible refine(yaI.calls k1 (rdOf ByteArray.empty dy aD) true _ A6.out).mono ?_);rintro e w' ⟨rfl,⟨nd,rfl⟩⟩;refine⟨_,rfl,?_⟩)));go_roundg k1;(case measure=>have:=HK1.out;omega);case rel=>exact⟨(wrap64 (aD+1)),zY3,H',⟨by have:=HK1.out;omega⟩,⟨zVR fW.out⟩,⟨zB⟩⟩
def yaq.f (k:Nat)(ag:ByteArray)(ah:ByteArray):Option (Bool):=(yaI.f k ag).bind fun oI=>(if oI=true then((yaS.f k ah).bind fun mz=>(some mz))else(some false))
theorem yaq.calls (k:Nat)(ag:ByteArray)(ah:ByteArray)(r:Bool)(w:World)(h:yaq.f k ag ah=some r) :
 Calls prog 59 #[.agg #[.string ag,.string ah]] w fun e w'=>e=.returned (.bool r)∧Below w.heap.size w w':=by
 have hu24:=underlying24;have HB:=zA (Below.refl w.heap.size w);have H:=h;clear h;unfold yaq.f at H;replace H:=zM H;obtain⟨oI,A2,H⟩:=H;replace H:=zb H;obtain⟨rfl,H⟩|⟨rfl,H⟩:=H
 ·obtain rfl:=zs H;go_enter func59,ntmps59;(go_wp2_with (first|((with_reducible refine zq6 (N:=1) rfl ?_);refine zEa (N:=1) (cs:=#[.string ag,.string ah]) (t:=24) ?_;intro ly hg w8 gv hb;have AA:=zA (zS hg:w.heap.size≤ly);have AB:=zA (zS hg:w.heap.size≤ly);replace HB:=zhb hb;clear hb hg;obtain⟨_,_⟩:=zc2 gv.out;obtain⟨_,_⟩:=zf2 gv.out)|((with_reducible refine zq2 (f:=108) rfl ?_);refine zq7 (some 5) rfl rfl func108 zY1 rfl #[.string ag] rfl zY0 ?_;(with_reducible refine(yaI.calls k ag false _ A2.out).mono ?_);rintro e w' ⟨rfl,⟨nd,rfl⟩⟩;refine⟨_,rfl,?_⟩)));go_ret;exact⟨zT,zB⟩
 replace H:=zM H;obtain⟨mz,A4,H⟩:=H;obtain rfl:=zs H;go_enter func59,ntmps59;go_wp2_with (first|((with_reducible refine zq6 (N:=1) rfl ?_);refine zEa (N:=1) (cs:=#[.string ag,.string ah]) (t:=24) ?_;intro ly hg w5 gv hb;have AA:=zA (zS hg:w.heap.size≤ly);have AB:=zA (zS hg:w.heap.size≤ly);replace HB:=zhb hb;clear hb hg;obtain⟨_,_⟩:=zc2 gv.out;obtain⟨_,_⟩:=zf2 gv.out)|((with_reducible refine zq2 (f:=108) rfl ?_);refine zq7 (some 5) rfl rfl func108 zY1 rfl #[.string ag] rfl zY0 ?_;(with_reducible refine(yaI.calls k ag true _ A2.out).mono ?_);rintro e w' ⟨rfl,⟨nd,rfl⟩⟩;refine⟨_,rfl,?_⟩)|(go_at_call 109;(with_reducible refine(yaS.calls k ah mz _ A4.out).mono ?_);rintro e w7 ⟨rfl,hb⟩;replace gv:=zA (zq1 (zK gv.out) hb);replace HB:=zhb hb;clear hb))
 go_ret;exact⟨zT,zB⟩
def yaT.l0:Nat→ByteArray→Int→Option (Bool)
 | 0,_,_=>none
 | k+1,x0,x3=>if x3<(x0.size:Int)then(if 0≤x3 then(if(bt x0 x3)<32 then(some false)else(if(bt x0 x3)>126 then(some false)else(yaT.l0 k x0 (wrap64 (x3+1)))))else(none))else(some (decide ((x0.size:Int)≤40)))
def yaT.f (k:Nat)(a0:ByteArray):Option (Bool):=yaT.l0 k a0 0
theorem yaT.calls (k:Nat)(a0:ByteArray)(r:Bool)(w:World)(h:yaT.f k a0=some r) :
 Calls prog 140 #[.string a0] w fun e w'=>e=.returned (.bool r)∧Drawn0 w w':=by
 have H:=h;clear h;unfold yaT.f at H;have H':=zA H;clear H;go_enter func140,ntmps140;go_wp2;go_loopg [3] k (fun kq v3 w'=>∃(av:Int),v3=.int .i64 av∧Aside0 (yaT.l0 kq a0 av=some r)∧Aside0 (kq≤k)∧Drawn0 w w')
 case atStart=>exact⟨(0),zY3,H',⟨Nat.le_refl _⟩,by repeat(first|exact Drawn0.refl _|apply Drawn0.step)⟩
 case round =>
  clear H';obtain⟨av,rfl,HA,HK1,⟨m1,rfl⟩⟩:=hrel;cases gk with
  | zero=>exact absurd HA.out (by simp[yaT.l0])
  | succ k1 =>
   have H:=HA.out;clear HA;simp only[yaT.l0]at H;obtain⟨c2b0,H⟩|⟨c2b0,H⟩:=zf H zkNd zkd
   ·obtain rfl:=zs H;go_wp2;go_ret;exact⟨by first|rfl|(simp;done)|(simp[*];done),by repeat(first|exact Drawn0.refl _|apply Drawn0.step)⟩
   obtain⟨c3b0,H⟩:=zp H zkd;obtain⟨c5b0,H⟩|⟨c5b0,H⟩:=zh H zkd zkNd
   ·obtain rfl:=zs H;have p4:0≤(av:Int):=zw;have q4:av<(a0.size:Int):=zw;have kx:=bt_at a0 av;replace p4:=eq_true p4;replace q4:=eq_true q4;go_wp2;go_ret;exact⟨by first|rfl|(simp;done)|(simp[*];done),by repeat(first|exact Drawn0.refl _|apply Drawn0.step)⟩
   obtain⟨c7b0,H⟩|⟨c7b0,H⟩:=zh H zkGg zkGNg
   ·obtain rfl:=zs H;have p4:0≤(av:Int):=zw;have q4:av<(a0.size:Int):=zw;have kx:=bt_at a0 av;replace p4:=eq_true p4;replace q4:=eq_true q4;have p6:0≤(av:Int):=zw;have q6:av<(a0.size:Int):=zw;have pI:=bt_at a0 av;replace p6:=eq_true p6;replace q6:=eq_true q6;go_wp2;go_ret;exact⟨by first|rfl|(simp;done)|(simp[*];done),by repeat(first|exact Drawn0.refl _|apply Drawn0.step)⟩
   have H':=zA H;clear H;have p4:0≤(av:Int):=zw;have q4:av<(a0.size:Int):=zw;have kx:=bt_at a0 av;replace p4:=eq_true p4;replace q4:=eq_true q4;have p6:0≤(av:Int):=zw;have q6:av<(a0.size:Int):=zw;have pI:=bt_at a0 av;replace p6:=eq_true p6;replace q6:=eq_true q6;go_wp2;go_roundg k1;(case measure=>have:=HK1.out;omega);case rel=>exact⟨(wrap64 (av+1)),zY3,H',⟨by have:=HK1.out;omega⟩,by repeat(first|exact Drawn0.refl _|apply Drawn0.step)⟩
def yat.l0:Nat→List ByteArray→Int→Option (Bool)
 | 0,_,_=>none
 | k+1,x0,x3=>if x3<(x0.length:Int)then(if 0≤x3 then((yaT.f k (rdOf ByteArray.empty x0 x3)).bind fun fK=>(if fK=true then(yat.l0 k x0 (wrap64 (x3+1)))else(some false)))else(none))else(some (decide ((x0.length:Int)≤12)))
def yat.f (k:Nat)(l0:List ByteArray):Option (Bool):=yat.l0 k l0 0
theorem yat.calls (k:Nat)(A0:Option Addr)(c0:Nat)(l0:List ByteArray)(r:Bool)(w:World)(cD:Kd.C Kd.string w A0 l0.length l0)(dz:l0.length≤c0)(h:yat.f k l0=some r) :
 Calls prog 107 #[.slice A0 l0.length c0] w fun e w'=>e=.returned (.bool r)∧Drawn0 w w':=by
 have dL:=zA cD;have fX:=zA dz;clear cD dz;have H:=h;clear h;unfold yat.f at H;have H':=zA H;clear H;go_enter func107,ntmps107;go_wp2;go_loopg [3] k (fun kq v3 w'=>∃(av:Int),v3=.int .i64 av∧Aside0 (yat.l0 kq l0 av=some r)∧Aside0 (kq≤k)∧Drawn0 w w')
 case atStart=>exact⟨(0),zY3,H',⟨Nat.le_refl _⟩,by repeat(first|exact Drawn0.refl _|apply Drawn0.step)⟩
 case round =>
  clear H';obtain⟨av,rfl,HA,HK1,⟨m1,rfl⟩⟩:=hrel;cases gk with
  | zero=>exact absurd HA.out (by simp[yat.l0])
  | succ k1 =>
   have H:=HA.out;clear HA;simp only[yat.l0]at H;replace H:=zf H zkNd zkd;obtain⟨c2b0,H⟩|⟨c2b0,H⟩:=H
   ·obtain rfl:=zs H;go_wp2;go_ret;exact⟨by first|rfl|(simp;done)|(simp[*];done),by repeat(first|exact Drawn0.refl _|apply Drawn0.step)⟩
   replace H:=zp H zkd;obtain⟨c3b0,H⟩:=H;replace H:=zM H;obtain⟨fK,A4,H⟩:=H;replace H:=zb H;obtain⟨rfl,H⟩|⟨rfl,H⟩:=H
   ·obtain rfl:=zs H;have gX:0≤(av:Int):=zw;have gY:av<(l0.length:Int):=zw;obtain⟨xa,no,xb⟩:=Kd.z16 dL.out av gX gY;cases no;replace gX:=eq_true gX;replace gY:=eq_true gY;(go_wp2_with (first|((with_reducible refine zq2 (f:=140) rfl ?_);refine zq7 (some 14) rfl rfl func140 zY1 rfl #[.string (rdOf ByteArray.empty l0 av)] rfl zY0 ?_;(with_reducible refine(yaT.calls k1 (rdOf ByteArray.empty l0 av) false _ A4.out).mono ?_);rintro e w' ⟨rfl,⟨nd,rfl⟩⟩;refine⟨_,rfl,?_⟩)));go_ret;exact⟨by first|rfl|(simp;done)|(simp[*];done),by repeat(first|exact Drawn0.refl _|apply Drawn0.step)⟩
   have H':=zA H;clear H;have gX:0≤(av:Int):=zw;have gY:av<(l0.length:Int):=zw;obtain⟨xa,no,xb⟩:=Kd.z16 dL.out av gX gY;cases no;replace gX:=eq_true gX;replace gY:=eq_true gY;(go_wp2_with (first|((with_reducible refine zq2 (f:=140) rfl ?_);refine zq7 (some 14) rfl rfl func140 zY1 rfl #[.string (rdOf ByteArray.empty l0 av)] rfl zY0 ?_;(with_reducible refine(yaT.calls k1 (rdOf ByteArray.empty l0 av) true _ A4.out).mono ?_);rintro e w' ⟨rfl,⟨nd,rfl⟩⟩;refine⟨_,rfl,?_⟩)));go_roundg k1;(case measure=>have:=HK1.out;omega);case rel=>exact⟨(wrap64 (av+1)),zY3,H',⟨by have:=HK1.out;omega⟩,by repeat(first|exact Drawn0.refl _|apply Drawn0.step)⟩
end Go.Proofs.YtjdpdkdhfnpcgaaGreatDoor.Q
namespace Go.Proofs.YtjdpdkdhfnpcgaaGreatDoor.Q
open Go.RowKit Go.Proofs.YtjdpdkdhfnpcgaaGreatDoorW.PrintWords Go.Proofs.YtjdpdkdhfnpcgaaGreatDoorW.PrintLast Go.Proofs.YtjdpdkdhfnpcgaaGreatDoorW.PrintMore Tryz
attribute [local go_sem] max2_int min2_int max_two min_two max_three min_three max_four min_four
set_option linter.unusedVariables false
set_option linter.unusedSimpArgs false
attribute [local go_sem high] eqA24
mutual
def yau.l0:Nat→Int→ByteArray→ByteArray→List (S24)→List ByteArray→Option (Bool)
 | 0,_,_,_,_,_=>none
 | k+1,x3,sb,sc,ju,se=>if x3<(ju.length:Int)then(if 0≤x3 then((yaq.f k ((zq13 ju x3).f0) ((zq13 ju x3).f1)).bind fun dW=>(if dW=true then(yau.l1 k x3 0 sb sc ju se)else(some false)))else(none))else((yaq.f k sb sc).bind fun gK=>(if gK=true then((yaz.f (ju.length:Int) 1 4).bind fun iD=>(if iD=true then((yat.f k se).bind fun dy=>(some dy))else(some false)))else((yaN.f sb sc).bind fun iZ=>(if iZ=true then((yaz.f (ju.length:Int) 1 4).bind fun fL=>(if fL=true then((yat.f k se).bind fun fM=>(some fM))else(some false)))else(some false)))))
def yau.l1:Nat→Int→Int→ByteArray→ByteArray→List (S24)→List ByteArray→Option (Bool)
 | 0,_,_,_,_,_,_=>none
 | k+1,x3,x4,sb,sc,ju,se=>if x4<x3 then(if 0≤x4 then(if x4<(ju.length:Int)then(if 0≤x3 then(if x3<(ju.length:Int)then(if((((zq13 ju x4).f0).toList)==(((zq13 ju x3).f0).toList) && ((((zq13 ju x4).f1).toList)==(((zq13 ju x3).f1).toList)))=true then(some false)else(yau.l1 k x3 (wrap64 (x4+1)) sb sc ju se))else(none))else(none))else(none))else(none))else(yau.l0 k (wrap64 (x3+1)) sb sc ju se)
end
def yau.f (k:Nat)(ag:ByteArray)(ah:ByteArray)(az:List (S24))(bb:List ByteArray):Option (Bool):=yau.l0 k 0 ag ah az bb
theorem yau.calls (k:Nat)(ag:ByteArray)(ah:ByteArray)(du:Option Addr)(dh:Nat)(az:List (S24))(cB:Option Addr)(cC:Nat)(bb:List ByteArray)(r:Bool)(w:World)(iE:Kd.C k24 w du az.length az)(iF:az.length≤dh)(gL:Kd.C Kd.string w cB bb.length bb)(gM:bb.length≤cC)(h:yau.f k ag ah az bb=some r) :
 Calls prog 57 #[.agg #[.string ag,.string ah,.slice du az.length dh,.slice cB bb.length cC]] w fun e w'=>e=.returned (.bool r)∧Below w.heap.size w w':=by
 have hu28:=underlying28;have hu24:=underlying24;have fY:=zA iE;have jI:=zA iF;clear iE iF;have gw:=zA gL;have iq:=zA gM;clear gL gM;have HB:=zA (Below.refl w.heap.size w);have H:=h;clear h;unfold yau.f at H;have H':=zA H;clear H;go_enter func57,ntmps57;go_wp2_with (first|((with_reducible refine zq6 (N:=1) rfl ?_);(try(refine gate_guard zY19 ?_;dsimp only));refine zEa (N:=1) (cs:=#[.string ag,.string ah,.slice du az.length dh,.slice cB bb.length cC]) (t:=28) ?_;intro mA hg w2 aI hb;have FY:=zA (zS hg:w.heap.size≤mA);have FZ:=zA (zS hg:w.heap.size≤mA);replace HB:=zhb hb;clear hb hg))
 go_loopg [3] k (fun kq v3 w'=>∃(av:Int),v3=.int .i64 av∧Aside0 (yau.l0 kq av ag ah az bb=some r)∧Aside0 (kq≤k)∧Aside0 (w'.heap[mA]?=some (.cells #[.string ag,.string ah,(.slice du az.length dh),(.slice cB bb.length cC)] 28 (0,0)))∧Aside0 (Below w.heap.size w w'))
 case atStart=>exact⟨(0),zY3,H',⟨Nat.le_refl _⟩,⟨zK aI.out⟩,⟨zB⟩⟩
 case round =>
  clear H';obtain⟨av,rfl,HA,HK1,aI,HB⟩:=hrel;cases gk with
  | zero=>exact absurd HA.out (by simp[yau.l0])
  | succ k1 =>
   have H:=HA.out;clear HA;simp only[yau.l0]at H;replace H:=zh H zkd zkNd;obtain⟨c3b0,H⟩|⟨c3b0,H⟩:=H
   ·replace H:=zp H zkd;obtain⟨c4b0,H⟩:=H;replace H:=zM H;obtain⟨dW,A5,H⟩:=H;replace H:=zb H;obtain⟨rfl,H⟩|⟨rfl,H⟩:=H
    ·obtain rfl:=zs H;obtain⟨_,_,_,_⟩:=zc4 aI.out;obtain⟨_,_,_,_⟩:=zf4 aI.out;have fq:0≤(av:Int):=zw;have ft:av<(az.length:Int):=zw;obtain⟨lz,lA,ir,i6⟩:=at_T24 fY.out av fq ft;cases lA;replace ir:=(HB.out.cell (World.block_lt_of_cell? w _ ir)).trans ir;replace i6:=(HB.out.cell (World.block_lt_of_cell? w _ i6)).trans i6;replace fq:=eq_true fq;replace ft:=eq_true ft;(go_wp2_with (first|(go_at_call 59;(with_reducible refine(yaq.calls k1 ((zq13 az av).f0) ((zq13 az av).f1) false _ A5.out).mono ?_);rintro e kW ⟨rfl,hb⟩;replace aI:=zA (zq1 (zK aI.out) hb);replace HB:=zhb hb;clear hb)));go_ret;exact⟨zT,zB⟩
    have H':=zA H;clear H;obtain⟨lB,lC,oJ,oK⟩:=zc4 aI.out;obtain⟨lD,lE,oL,oM⟩:=zf4 aI.out;have fq:0≤(av:Int):=zw;have ft:av<(az.length:Int):=zw;obtain⟨lz,lA,ir,i6⟩:=at_T24 fY.out av fq ft;cases lA;replace ir:=(HB.out.cell (World.block_lt_of_cell? w _ ir)).trans ir;replace i6:=(HB.out.cell (World.block_lt_of_cell? w _ i6)).trans i6;replace fq:=eq_true fq;replace ft:=eq_true ft;(go_wp2_with (first|(go_at_call 59;(with_reducible refine(yaq.calls k1 ((zq13 az av).f0) ((zq13 az av).f1) true _ A5.out).mono ?_);rintro e w8 ⟨rfl,hb⟩;replace aI:=zA (zq1 (zK aI.out) hb);replace HB:=zhb hb;clear hb)));(go_loopg [4] k1 (fun kq v4 w'=>∃(eo:Int),v4=.int .i64 eo∧Aside0 (yau.l1 kq av eo ag ah az bb=some r)∧Aside0 (kq≤k1)∧Aside0 (w'.heap[mA]?=some (.cells #[.string ag,.string ah,(.slice (some lz) az.length dh),(.slice cB bb.length cC)] 28 (0,0)))∧Aside0 (Below w.heap.size w w')));case atStart=>exact⟨(0),zY3,H',⟨Nat.le_refl _⟩,⟨zK aI.out⟩,⟨zB⟩⟩
    case round =>
     clear H';clear c3b0 c4b0 lB lC oJ oK lD lE oL oM ir i6 fq ft;obtain⟨eo,rfl,HA,HK2,aI,HB⟩:=hrel;cases gk with
     | zero=>exact absurd HA.out (by simp[yau.l1])
     | succ k2 =>
      have H:=HA.out;clear HA;simp only[yau.l1]at H;replace H:=zf H zkNd zkd;obtain⟨c9b0,H⟩|⟨c9b0,H⟩:=H
      ·have H':=zA H;clear H;go_wp2;go_roundg k2;(case measure=>have:=HK1.out;have:=HK2.out;omega);case rel=>exact⟨(wrap64 (av+1)),zY3,H',⟨by have:=HK1.out;have:=HK2.out;omega⟩,⟨zK aI.out⟩,⟨zB⟩⟩
      replace H:=zp H zkd;obtain⟨c10b0,H⟩:=H;replace H:=zp H zkd;obtain⟨c11b0,H⟩:=H;replace H:=zp H zkd;obtain⟨c12b0,H⟩:=H;replace H:=zp H zkd;obtain⟨c13b0,H⟩:=H;replace H:=zh H zd6 zd6;obtain⟨fv,H⟩|⟨fv,H⟩:=H
      ·have c14b0:((((zq13 az eo).f0).toList)==(((zq13 az av).f0).toList) && ((((zq13 az eo).f1).toList)==(((zq13 az av).f1).toList)))=true:=fv;(try(have c14b1:decide ((((zq13 az eo).f0).toList)=(((zq13 az av).f0).toList) && ((((zq13 az eo).f1).toList)==(((zq13 az av).f1).toList)))=true:=by simpa using fv));(try(have c14b2:((((zq13 az eo).f0).toList)==(((zq13 az av).f0).toList) && ((((zq13 az eo).f1).toList)==(((zq13 az av).f1).toList)))=true:=by simpa using fv));clear fv;obtain rfl:=zs H;obtain⟨_,_,_,_⟩:=zc4 aI.out;obtain⟨_,_,_,_⟩:=zf4 aI.out;have pO:0≤(eo:Int):=zw;have pP:eo<(az.length:Int):=zw;obtain⟨AC,AD,pQ,pR⟩:=at_T24 fY.out eo pO pP;obtain rfl:lz=AC:=(by injection AD);replace pQ:=(HB.out.cell (World.block_lt_of_cell? w _ pQ)).trans pQ;replace pR:=(HB.out.cell (World.block_lt_of_cell? w _ pR)).trans pR;replace pO:=eq_true pO;replace pP:=eq_true pP;have pS:0≤(av:Int):=zw;have pT:av<(az.length:Int):=zw;obtain⟨AE,AF,pU,pV⟩:=at_T24 fY.out av pS pT;obtain rfl:lz=AE:=(by injection AF);replace pU:=(HB.out.cell (World.block_lt_of_cell? w _ pU)).trans pU;replace pV:=(HB.out.cell (World.block_lt_of_cell? w _ pV)).trans pV;replace pS:=eq_true pS;replace pT:=eq_true pT;go_wp2;(repeat(go_quiet (fail);try go_wp2));go_ret;exact⟨zT,zB⟩
      (have c14b0:((((zq13 az eo).f0).toList)==(((zq13 az av).f0).toList) && ((((zq13 az eo).f1).toList)==(((zq13 az av).f1).toList)))=false:=by simpa using fv);(try(have c14b1:decide ((((zq13 az eo).f0).toList)=(((zq13 az av).f0).toList) && ((((zq13 az eo).f1).toList)==(((zq13 az av).f1).toList)))=false:=by simpa using fv));(try(have c14b2:((((zq13 az eo).f0).toList)==(((zq13 az av).f0).toList) && ((((zq13 az eo).f1).toList)==(((zq13 az av).f1).toList)))=false:=by simpa using fv));(try(have c14b3:¬ ((((zq13 az eo).f0).toList)=(((zq13 az av).f0).toList) && ((((zq13 az eo).f1).toList)==(((zq13 az av).f1).toList))):=by simpa using fv));clear fv;have H':=zA H;clear H;obtain⟨_,_,_,_⟩:=zc4 aI.out;obtain⟨_,_,_,_⟩:=zf4 aI.out;have pO:0≤(eo:Int):=zw;have pP:eo<(az.length:Int):=zw;obtain⟨AC,AD,pQ,pR⟩:=at_T24 fY.out eo pO pP;obtain rfl:lz=AC:=(by injection AD);replace pQ:=(HB.out.cell (World.block_lt_of_cell? w _ pQ)).trans pQ;replace pR:=(HB.out.cell (World.block_lt_of_cell? w _ pR)).trans pR;replace pO:=eq_true pO;replace pP:=eq_true pP;have pS:0≤(av:Int):=zw;have pT:av<(az.length:Int):=zw;obtain⟨AE,AF,pU,pV⟩:=at_T24 fY.out av pS pT;obtain rfl:lz=AE:=(by injection AF);replace pU:=(HB.out.cell (World.block_lt_of_cell? w _ pU)).trans pU;replace pV:=(HB.out.cell (World.block_lt_of_cell? w _ pV)).trans pV;replace pS:=eq_true pS;replace pT:=eq_true pT;go_wp2;(repeat(go_quiet (fail);try go_wp2));go_roundg k2;(case measure=>have:=HK1.out;have:=HK2.out;omega);case rel=>exact⟨(wrap64 (eo+1)),zY3,H',⟨by have:=HK1.out;have:=HK2.out;omega⟩,⟨zK aI.out⟩,⟨zB⟩⟩
   replace H:=zM H;obtain⟨gK,d6,H⟩:=H;replace H:=zbp H;obtain⟨rfl,H⟩|⟨rfl,H⟩:=H
   ·replace H:=zM H;obtain⟨iD,ky,H⟩:=H;replace H:=zb H;obtain⟨rfl,H⟩|⟨rfl,H⟩:=H
    ·obtain rfl:=zs H;obtain⟨_,_,_,_⟩:=zc4 aI.out;obtain⟨_,_,_,_⟩:=zf4 aI.out;(go_wp2_with (first|(go_at_call 59;(with_reducible refine(yaq.calls k1 ag ah true _ d6.out).mono ?_);rintro e eH ⟨rfl,hb⟩;replace aI:=zA (zq1 (zK aI.out) hb);replace HB:=zhb hb;clear hb;obtain⟨_,_,_,_⟩:=zc4 aI.out;obtain⟨_,_,_,_⟩:=zf4 aI.out)|(go_at_call 58;(with_reducible refine(yaz.calls (az.length:Int) 1 4 false _ ky.out).mono ?_);rintro e w' ⟨rfl,⟨nd,rfl⟩⟩)));go_ret;exact⟨zT,zB⟩
    replace H:=zM H;obtain⟨dy,oN,H⟩:=H;obtain rfl:=zs H;obtain⟨_,_,_,_⟩:=zc4 aI.out;obtain⟨_,_,_,_⟩:=zf4 aI.out;(go_wp2_with (first|(go_at_call 59;(with_reducible refine(yaq.calls k1 ag ah true _ d6.out).mono ?_);rintro e jJ ⟨rfl,hb⟩;replace aI:=zA (zq1 (zK aI.out) hb);replace HB:=zhb hb;clear hb;obtain⟨_,_,_,_⟩:=zc4 aI.out;obtain⟨_,_,_,_⟩:=zf4 aI.out)|(go_at_call 58;(with_reducible refine(yaz.calls (az.length:Int) 1 4 true _ ky.out).mono ?_);rintro e w' ⟨rfl,⟨nd,rfl⟩⟩)|(go_at_call 107;(with_reducible refine(yat.calls k1 _ _ bb dy _ ?side1 ?side2 oN.out).mono ?_);(case side1=>exact zC (Kd.z0 gw.out zB));(case side2=>exact iq.out);rintro e w' ⟨rfl,⟨nd,rfl⟩⟩)));go_ret;exact⟨zT,zB⟩
   replace H:=zM H;obtain⟨iZ,kz,H⟩:=H;replace H:=zb H;obtain⟨rfl,H⟩|⟨rfl,H⟩:=H
   ·obtain rfl:=zs H;obtain⟨_,_,_,_⟩:=zc4 aI.out;obtain⟨_,_,_,_⟩:=zf4 aI.out;(go_wp2_with (first|(go_at_call 59;(with_reducible refine(yaq.calls k1 ag ah false _ d6.out).mono ?_);rintro e oO ⟨rfl,hb⟩;replace aI:=zA (zq1 (zK aI.out) hb);replace HB:=zhb hb;clear hb;obtain⟨_,_,_,_⟩:=zc4 aI.out;obtain⟨_,_,_,_⟩:=zf4 aI.out)|(go_at_call 56;(with_reducible refine(yaN.calls ag ah false _ kz.out).mono ?_);rintro e np ⟨rfl,hb⟩;replace aI:=zA (zq1 (zK aI.out) hb);replace HB:=zhb hb;clear hb)));go_ret;exact⟨zT,zB⟩
   replace H:=zM H;obtain⟨fL,oP,H⟩:=H;replace H:=zb H;obtain⟨rfl,H⟩|⟨rfl,H⟩:=H
   ·obtain rfl:=zs H;obtain⟨_,_,_,_⟩:=zc4 aI.out;obtain⟨_,_,_,_⟩:=zf4 aI.out;(go_wp2_with (first|(go_at_call 59;(with_reducible refine(yaq.calls k1 ag ah false _ d6.out).mono ?_);rintro e pW ⟨rfl,hb⟩;replace aI:=zA (zq1 (zK aI.out) hb);replace HB:=zhb hb;clear hb;obtain⟨_,_,_,_⟩:=zc4 aI.out;obtain⟨_,_,_,_⟩:=zf4 aI.out)|(go_at_call 56;(with_reducible refine(yaN.calls ag ah true _ kz.out).mono ?_);rintro e xc ⟨rfl,hb⟩;replace aI:=zA (zq1 (zK aI.out) hb);replace HB:=zhb hb;clear hb;obtain⟨_,_,_,_⟩:=zc4 aI.out;obtain⟨_,_,_,_⟩:=zf4 aI.out)|(go_at_call 58;(with_reducible refine(yaz.calls (az.length:Int) 1 4 false _ oP.out).mono ?_);rintro e w' ⟨rfl,⟨nd,rfl⟩⟩)));go_ret;exact⟨zT,zB⟩
   replace H:=zM H;obtain⟨fM,tN,H⟩:=H;obtain rfl:=zs H;obtain⟨_,_,_,_⟩:=zc4 aI.out;obtain⟨_,_,_,_⟩:=zf4 aI.out;(go_wp2_with (first|(go_at_call 59;(with_reducible refine(yaq.calls k1 ag ah false _ d6.out).mono ?_);rintro e pX ⟨rfl,hb⟩;replace aI:=zA (zq1 (zK aI.out) hb);replace HB:=zhb hb;clear hb;obtain⟨_,_,_,_⟩:=zc4 aI.out;obtain⟨_,_,_,_⟩:=zf4 aI.out)|(go_at_call 56;(with_reducible refine(yaN.calls ag ah true _ kz.out).mono ?_);rintro e lF ⟨rfl,hb⟩;replace aI:=zA (zq1 (zK aI.out) hb);replace HB:=zhb hb;clear hb;obtain⟨_,_,_,_⟩:=zc4 aI.out;obtain⟨_,_,_,_⟩:=zf4 aI.out)|(go_at_call 58;(with_reducible refine(yaz.calls (az.length:Int) 1 4 true _ oP.out).mono ?_);rintro e w' ⟨rfl,⟨nd,rfl⟩⟩)|(go_at_call 107;(with_reducible refine(yat.calls k1 _ _ bb fM _ ?side1 ?side2 tN.out).mono ?_);(case side1=>exact zC (Kd.z0 gw.out zB));(case side2=>exact iq.out);rintro e w' ⟨rfl,⟨nd,rfl⟩⟩)));go_ret;exact⟨zT,zB⟩
end Go.Proofs.YtjdpdkdhfnpcgaaGreatDoor.Q
namespace Go.Proofs.YtjdpdkdhfnpcgaaGreatDoor.Q
open Go.RowKit Go.Proofs.YtjdpdkdhfnpcgaaGreatDoorW.PrintWords Go.Proofs.YtjdpdkdhfnpcgaaGreatDoorW.PrintLast Go.Proofs.YtjdpdkdhfnpcgaaGreatDoorW.PrintMore Tryz
attribute [local go_sem] max2_int min2_int max_two min_two max_three min_three max_four min_four
set_option linter.unusedVariables false
set_option linter.unusedSimpArgs false
def ya3.j0:Nat→Bool→Int→Int→ByteArray→ByteArray→Int→ByteArray→ByteArray→List (S24)→List ByteArray→Option (Bool)
 | 0,_,_,_,_,_,_,_,_,_,_=>none
 | k+1,x3,AG,AH,AI,AJ,AK,KT,KU,KV,KW=>if AG=1 then(if AH=0 then((yaN.f AI AJ).bind fun oI=>(if oI=true then((yau.f k KT KU KV KW).bind fun mz=>(if mz=true then((yaz.f AK 0 9999).bind fun AL=>(some AL))else(some false)))else(some false)))else(some false))else(if AG=2 then(if x3=true then((yaz.f AH 1 999).bind fun F0=>(if F0=true then((yaq.f k AI AJ).bind fun F1=>(if F1=true then(some (AK==0))else(some false)))else(some false)))else(some false))else(if AG=3 then(if x3=true then((yaz.f AH 1 999).bind fun F2=>(if F2=true then((yaq.f k AI AJ).bind fun F3=>(if F3=true then((yaz.f AK 0 9999).bind fun AM=>(some AM))else(some false)))else(some false)))else(some false))else(some false)))
def ya3.f (k:Nat)(ag:Int)(ah:Int)(aT:ByteArray)(bi:ByteArray)(bu:Int)(bk:ByteArray)(bm:ByteArray)(aX:List (S24))(aY:List ByteArray):Option (Bool):=(yaN.f bk bm).bind fun F4=>(if F4=true then(if(aX.length:Int)=0 then(ya3.j0 k ((aY.length:Int)==0) ag ah aT bi bu bk bm aX aY)else(ya3.j0 k false ag ah aT bi bu bk bm aX aY))else(ya3.j0 k false ag ah aT bi bu bk bm aX aY))
theorem ya3.calls (k:Nat)(ag:Int)(ah:Int)(aT:ByteArray)(bi:ByteArray)(bu:Int)(bk:ByteArray)(bm:ByteArray)(cv:Option Addr)(cw:Nat)(aX:List (S24))(cx:Option Addr)(cy:Nat)(aY:List ByteArray)(r:Bool)(w:World)(iG:Kd.C k24 w cv aX.length aX)(iH:aX.length≤cw)(iI:Kd.C Kd.string w cx aY.length aY)(iJ:aY.length≤cy)(h:ya3.f k ag ah aT bi bu bk bm aX aY=some r) :
 Calls prog 25 #[.agg #[.int .i64 ag,.int .i64 ah,.string aT,.string bi,.int .i64 bu,.string bk,.string bm,.slice cv aX.length cw,.slice cx aY.length cy]] w fun e w'=>e=.returned (.bool r)∧Below w.heap.size w w':=by
 have hu30:=underlying30;have hu24:=underlying24;have hu28:=underlying28;have fZ:=zA iG;have f6:=zA iH;clear iG iH;have f7:=zA iI;have f9:=zA iJ;clear iI iJ;have HB:=zA (Below.refl w.heap.size w);have H:=h;clear h;unfold ya3.f at H;have pY:=zA H;clear H;go_enter func25,ntmps25;go_upto_region 1 with (first|((with_reducible refine zq6 (N:=1) rfl ?_);(try(refine gate_guard zY19 ?_;dsimp only));refine zEa (N:=1) (cs:=#[.int .i64 ag,.int .i64 ah,.string aT,.string bi,.int .i64 bu,.string bk,.string bm,.slice cv aX.length cw,.slice cx aY.length cy]) (t:=30) ?_;intro AN hg w3 bL hb;have V2:=zA (zS hg:w.heap.size≤AN);have V3:=zA (zS hg:w.heap.size≤AN);replace HB:=zhb hb;clear hb hg))
 go_cut [3] (fun v3 wc=>∃(kq:Nat) (av:Bool),v3=.bool av∧Aside0 (ya3.j0 kq av ag ah aT bi bu bk bm aX aY=some r)∧Aside0 (kq≤k)∧Aside0 (wc.heap[AN]?=some (.cells #[.int .i64 ag,.int .i64 ah,.string aT,.string bi,.int .i64 bu,.string bk,.string bm,(.slice cv aX.length cw),(.slice cx aY.length cy)] 30 (0,0)))∧Aside0 (Below w.heap.size w wc))
 case first =>
  have H:=pY.out;clear pY;replace H:=zM H;obtain⟨F4,A4,H⟩:=H;replace H:=zb H;obtain⟨rfl,H⟩|⟨rfl,H⟩:=H
  ·have H':=zA H;clear H;obtain⟨tO,tP,AO,AP,AQ,AR,AS,AT,AU⟩:=zc9 bL.out;obtain⟨tQ,tR,AV,AW,AX,AY,AZ,Ba,Bb⟩:=zf9 bL.out;(go_wp2_with (first|((with_reducible refine zq2 (f:=56) rfl ?_);refine zq7 (some 7) rfl rfl func56 zY1 rfl #[.agg #[.string bk,.string bm]] rfl zY0 ?_;(with_reducible refine(yaN.calls bk bm false _ A4.out).mono ?_);rintro e eT ⟨rfl,hb⟩;refine⟨_,rfl,?_⟩;replace bL:=zA (zq1 (zK bL.out) hb);replace HB:=zhb hb;clear hb)));go_meet;case rel=>exact⟨_,(false),zY3,H',⟨by first|omega|exact Nat.le_refl _⟩,⟨zK bL.out⟩,⟨zB⟩⟩
  replace H:=zh H zkQqn zkQNqnk;obtain⟨⟨c6b0,c6b1⟩,H⟩|⟨⟨c6b0,c6b1,c6⟩,H⟩:=H
  ·(first|rw[c6b0]|(simp only[i64_w,i32_w];rw[c6b0])|skip);have H':=zA H;clear H;obtain⟨lB,lC,oJ,oK,KX,KY,KZ,K0,K1⟩:=zc9 bL.out;obtain⟨lD,lE,oL,oM,K2,K3,K4,K5,K6⟩:=zf9 bL.out;(go_wp2_with (first|((with_reducible refine zq2 (f:=56) rfl ?_);refine zq7 (some 7) rfl rfl func56 zY1 rfl #[.agg #[.string bk,.string bm]] rfl zY0 ?_;(with_reducible refine(yaN.calls bk bm true _ A4.out).mono ?_);rintro e w8 ⟨rfl,hb⟩;refine⟨_,rfl,?_⟩;replace bL:=zA (zq1 (zK bL.out) hb);replace HB:=zhb hb;clear hb;obtain⟨pZ,qa,Bc,Bd,Be,Bf,Bg,Bh,Bi⟩:=zc9 bL.out;obtain⟨qb,qc,Bj,Bk,Bl,Bm,Bn,Bo,Bp⟩:=zf9 bL.out)));go_meet;case rel=>exact⟨_,(((aY.length:Int)==0)),zY3,H',⟨by first|omega|exact Nat.le_refl _⟩,⟨zK bL.out⟩,⟨zB⟩⟩
  have c6b2:¬ (aX=[]):=fun h_=>c6 (by rw[h_];rfl);(first|rw[c6b0]|(simp only[i64_w,i32_w];rw[c6b0])|skip);have H':=zA H;clear H;obtain⟨tS,tT,tU,tV,Bq,Br,Bs,Bt,Bu⟩:=zc9 bL.out;obtain⟨tW,tX,tY,tZ,Bv,Bw,Bx,By,Bz⟩:=zf9 bL.out;(go_wp2_with (first|((with_reducible refine zq2 (f:=56) rfl ?_);refine zq7 (some 7) rfl rfl func56 zY1 rfl #[.agg #[.string bk,.string bm]] rfl zY0 ?_;(with_reducible refine(yaN.calls bk bm true _ A4.out).mono ?_);rintro e jK ⟨rfl,hb⟩;refine⟨_,rfl,?_⟩;replace bL:=zA (zq1 (zK bL.out) hb);replace HB:=zhb hb;clear hb;obtain⟨oQ,oR,qd,qe,t6,t7,t8,ua,ub⟩:=zc9 bL.out;obtain⟨qf,oS,qg,qh,uc,ud,ue,uf,ug⟩:=zf9 bL.out)));go_meet;case rel=>exact⟨_,(false),zY3,H',⟨by first|omega|exact Nat.le_refl _⟩,⟨zK bL.out⟩,⟨zB⟩⟩
 case rest =>
  clear pY;obtain⟨kq,av,rfl,HA,HJ1,bL,HB⟩:=hcut;cases kq with
  | zero=>exact absurd HA.out (by simp[ya3.j0])
  | succ kj1 =>
   have H:=HA.out;clear HA;simp only[ya3.j0]at H;replace H:=zh H zkQqn zkQNqnk;obtain⟨⟨c15b0,c15b1⟩,H⟩|⟨⟨c15b0,c15b1,oT⟩,H⟩:=H
   ·replace H:=zf H zkQNqnk zkQqn;obtain⟨⟨c16b0,c16b1,nq⟩,H⟩|⟨⟨c16b0,c16b1⟩,H⟩:=H
    ·obtain rfl:=zs H;obtain⟨_,_,_,_,_,_,_,_,_⟩:=zc9 bL.out;obtain⟨_,_,_,_,_,_,_,_,_⟩:=zf9 bL.out;go_wp2;go_ret;exact⟨zT,zB⟩
    replace H:=zM H;obtain⟨oI,ga,H⟩:=H;replace H:=zb H;obtain⟨rfl,H⟩|⟨rfl,H⟩:=H
    ·obtain rfl:=zs H;obtain⟨_,_,_,_,_,_,_,_,_⟩:=zc9 bL.out;obtain⟨_,_,_,_,_,_,_,_,_⟩:=zf9 bL.out;(go_wp2_with (first|(go_at_call 56;(with_reducible refine(yaN.calls aT bi false _ ga.out).mono ?_);rintro e xd ⟨rfl,hb⟩;replace bL:=zA (zq1 (zK bL.out) hb);replace HB:=zhb hb;clear hb)));go_ret;exact⟨zT,zB⟩
    replace H:=zM H;obtain⟨mz,d6,H⟩:=H;replace H:=zb H;obtain⟨rfl,H⟩|⟨rfl,H⟩:=H
    ·obtain rfl:=zs H;obtain⟨_,_,_,_,_,_,_,_,_⟩:=zc9 bL.out;obtain⟨_,_,_,_,_,_,_,_,_⟩:=zf9 bL.out;(go_wp2_with (first|(go_at_call 56;(with_reducible refine(yaN.calls aT bi true _ ga.out).mono ?_);rintro e eH ⟨rfl,hb⟩;replace bL:=zA (zq1 (zK bL.out) hb);replace HB:=zhb hb;clear hb;obtain⟨_,_,_,_,_,_,_,_,_⟩:=zc9 bL.out;obtain⟨_,_,_,_,_,_,_,_,_⟩:=zf9 bL.out)|(go_at_call 57;(with_reducible refine(yau.calls kj1 bk bm _ _ aX _ _ aY false _ ?side1 ?side2 ?side3 ?side4 d6.out).mono ?_);(case side1=>exact zC (Kd.z0 fZ.out HB.out));(case side2=>exact f6.out);(case side3=>exact zC (Kd.z0 f7.out HB.out));(case side4=>exact f9.out);rintro e uh ⟨rfl,hb⟩;replace bL:=zA (zq1 (zK bL.out) hb);replace HB:=zhb hb;clear hb)));go_ret;exact⟨zT,zB⟩
    replace H:=zM H;obtain⟨AL,ky,H⟩:=H;obtain rfl:=zs H;obtain⟨_,_,_,_,_,_,_,_,_⟩:=zc9 bL.out;obtain⟨_,_,_,_,_,_,_,_,_⟩:=zf9 bL.out;(go_wp2_with (first|(go_at_call 56;(with_reducible refine(yaN.calls aT bi true _ ga.out).mono ?_);rintro e kX ⟨rfl,hb⟩;replace bL:=zA (zq1 (zK bL.out) hb);replace HB:=zhb hb;clear hb;obtain⟨_,_,_,_,_,_,_,_,_⟩:=zc9 bL.out;obtain⟨_,_,_,_,_,_,_,_,_⟩:=zf9 bL.out)|(go_at_call 57;(with_reducible refine(yau.calls kj1 bk bm _ _ aX _ _ aY true _ ?side1 ?side2 ?side3 ?side4 d6.out).mono ?_);(case side1=>exact zC (Kd.z0 fZ.out HB.out));(case side2=>exact f6.out);(case side3=>exact zC (Kd.z0 f7.out HB.out));(case side4=>exact f9.out);rintro e jJ ⟨rfl,hb⟩;replace bL:=zA (zq1 (zK bL.out) hb);replace HB:=zhb hb;clear hb;obtain⟨_,_,_,_,_,_,_,_,_⟩:=zc9 bL.out;obtain⟨_,_,_,_,_,_,_,_,_⟩:=zf9 bL.out)|(go_at_call 58;(with_reducible refine(yaz.calls bu 0 9999 AL _ ky.out).mono ?_);rintro e w' ⟨rfl,⟨nd,rfl⟩⟩)));go_ret;exact⟨zT,zB⟩
   replace H:=zh H zkQqn zkQNqnk;obtain⟨⟨c34b0,c34b1⟩,H⟩|⟨⟨c34b0,c34b1,F5⟩,H⟩:=H
   ·replace H:=zb H;obtain⟨rfl,H⟩|⟨rfl,H⟩:=H
    ·obtain rfl:=zs H;obtain⟨_,_,_,_,_,_,_,_,_⟩:=zc9 bL.out;obtain⟨_,_,_,_,_,_,_,_,_⟩:=zf9 bL.out;go_wp2;go_ret;exact⟨zT,zB⟩
    replace H:=zM H;obtain⟨F0,BA,H⟩:=H;replace H:=zb H;obtain⟨rfl,H⟩|⟨rfl,H⟩:=H
    ·obtain rfl:=zs H;obtain⟨_,_,_,_,_,_,_,_,_⟩:=zc9 bL.out;obtain⟨_,_,_,_,_,_,_,_,_⟩:=zf9 bL.out;(go_wp2_with (first|(go_at_call 58;(with_reducible refine(yaz.calls ah 1 999 false _ BA.out).mono ?_);rintro e w' ⟨rfl,⟨nd,rfl⟩⟩)));go_ret;exact⟨zT,zB⟩
    replace H:=zM H;obtain⟨F1,F6,H⟩:=H;replace H:=zb H;obtain⟨rfl,H⟩|⟨rfl,H⟩:=H
    ·obtain rfl:=zs H;obtain⟨_,_,_,_,_,_,_,_,_⟩:=zc9 bL.out;obtain⟨_,_,_,_,_,_,_,_,_⟩:=zf9 bL.out;(go_wp2_with (first|(go_at_call 58;(with_reducible refine(yaz.calls ah 1 999 true _ BA.out).mono ?_);rintro e w' ⟨rfl,⟨nd,rfl⟩⟩)|(go_at_call 59;(with_reducible refine(yaq.calls kj1 aT bi false _ F6.out).mono ?_);rintro e qi ⟨rfl,hb⟩;replace bL:=zA (zq1 (zK bL.out) hb);replace HB:=zhb hb;clear hb)));go_ret;exact⟨zT,zB⟩
    obtain rfl:=zs H;obtain⟨_,_,_,_,_,_,_,_,_⟩:=zc9 bL.out;obtain⟨_,_,_,_,_,_,_,_,_⟩:=zf9 bL.out;(go_wp2_with (first|(go_at_call 58;(with_reducible refine(yaz.calls ah 1 999 true _ BA.out).mono ?_);rintro e w' ⟨rfl,⟨nd,rfl⟩⟩)|(go_at_call 59;(with_reducible refine(yaq.calls kj1 aT bi true _ F6.out).mono ?_);rintro e pW ⟨rfl,hb⟩;replace bL:=zA (zq1 (zK bL.out) hb);replace HB:=zhb hb;clear hb;obtain⟨_,_,_,_,_,_,_,_,_⟩:=zc9 bL.out;obtain⟨_,_,_,_,_,_,_,_,_⟩:=zf9 bL.out)));go_ret;exact⟨zT,zB⟩
   replace H:=zf H zkQNqnk zkQqn;obtain⟨⟨c47b0,c47b1,F7⟩,H⟩|⟨⟨c47b0,c47b1⟩,H⟩:=H
   ·obtain rfl:=zs H;obtain⟨_,_,_,_,_,_,_,_,_⟩:=zc9 bL.out;obtain⟨_,_,_,_,_,_,_,_,_⟩:=zf9 bL.out;go_wp2;go_ret;exact⟨zT,zB⟩
   replace H:=zb H;obtain⟨rfl,H⟩|⟨rfl,H⟩:=H
   ·obtain rfl:=zs H;obtain⟨_,_,_,_,_,_,_,_,_⟩:=zc9 bL.out;obtain⟨_,_,_,_,_,_,_,_,_⟩:=zf9 bL.out;go_wp2;go_ret;exact⟨zT,zB⟩
   replace H:=zM H;obtain⟨F2,BC,H⟩:=H;replace H:=zb H;obtain⟨rfl,H⟩|⟨rfl,H⟩:=H
   ·obtain rfl:=zs H;obtain⟨_,_,_,_,_,_,_,_,_⟩:=zc9 bL.out;obtain⟨_,_,_,_,_,_,_,_,_⟩:=zf9 bL.out;(go_wp2_with (first|(go_at_call 58;(with_reducible refine(yaz.calls ah 1 999 false _ BC.out).mono ?_);rintro e w' ⟨rfl,⟨nd,rfl⟩⟩)));go_ret;exact⟨zT,zB⟩
   replace H:=zM H;obtain⟨F3,ui,H⟩:=H;replace H:=zb H;obtain⟨rfl,H⟩|⟨rfl,H⟩:=H
   ·obtain rfl:=zs H;obtain⟨_,_,_,_,_,_,_,_,_⟩:=zc9 bL.out;obtain⟨_,_,_,_,_,_,_,_,_⟩:=zf9 bL.out;(go_wp2_with (first|(go_at_call 58;(with_reducible refine(yaz.calls ah 1 999 true _ BC.out).mono ?_);rintro e w' ⟨rfl,⟨nd,rfl⟩⟩)|(go_at_call 59;(with_reducible refine(yaq.calls kj1 aT bi false _ ui.out).mono ?_);rintro e iK ⟨rfl,hb⟩;replace bL:=zA (zq1 (zK bL.out) hb);replace HB:=zhb hb;clear hb)));go_ret;exact⟨zT,zB⟩
   replace H:=zM H;obtain⟨AM,BD,H⟩:=H;obtain rfl:=zs H;obtain⟨_,_,_,_,_,_,_,_,_⟩:=zc9 bL.out;obtain⟨_,_,_,_,_,_,_,_,_⟩:=zf9 bL.out;(go_wp2_with (first|(go_at_call 58;(with_reducible refine(yaz.calls ah 1 999 true _ BC.out).mono ?_);rintro e w' ⟨rfl,⟨nd,rfl⟩⟩)|(go_at_call 59;(with_reducible refine(yaq.calls kj1 aT bi true _ ui.out).mono ?_);rintro e d2 ⟨rfl,hb⟩;replace bL:=zA (zq1 (zK bL.out) hb);replace HB:=zhb hb;clear hb;obtain⟨_,_,_,_,_,_,_,_,_⟩:=zc9 bL.out;obtain⟨_,_,_,_,_,_,_,_,_⟩:=zf9 bL.out)|(go_at_call 58;(with_reducible refine(yaz.calls bu 0 9999 AM _ BD.out).mono ?_);rintro e w' ⟨rfl,⟨nd,rfl⟩⟩)));go_ret;exact⟨zT,zB⟩
def yav.f:Nat→Int→Option (ByteArray)
 | 0,_=>none
 | k+1,a0=>if a0<(-9223372036854775807)then(some (⟨#[45,57,50,50,51,51,55,50,48,51,54,56,53,52,55,55,53,56,48,56]⟩:ByteArray))else(if a0<0 then((yav.f k (wrap64 (-a0))).bind fun dk=>(if 1+dk.size≤9223372036854775807 then(some ((⟨#[45]⟩:ByteArray)++dk))else(none)))else(if a0<10 then(some (strOfNums (([(wrap64 (48+a0))%256]:List Int))))else((yav.f k (wrap64 (Int.tdiv a0 10))).bind fun dW=>((some (([(wrap64 (48+(Int.tmod a0 10)))%256]:List Int):List Int)).bind fun nr=>(if dW.size+(strOfNums nr).size≤9223372036854775807 then(some (dW++(strOfNums nr)))else(none))))))
def yav.T7:Bool × List (List Nat × List Nat):=(true,[([],[]),([0],[0]),([1],[1]),([],[]),([3],[3]),([4],[4]),([5],[5]),([6],[6]),([7],[7]),([2,8],[2,8]),([9,2,0,1,2,3,4,5,6,7,8,9],[9])])
def yav.B7:List Nat:=[0,1,3,0,8,24,56,120,248,511,1023]
theorem yav.tab7:rtab .any (opsOf Tryz.f60 7)=yav.T7:=by kernel_rfl
theorem yav.bits7:waitsOk yav.T7.2 yav.B7=true:=by kernel_rfl
theorem yav.calls (k:Nat):∀(a0:Int) (r:ByteArray) (w:World) (h:yav.f k a0=some r),
 Calls prog 60 #[.int .i64 a0] w fun e w'=>e=.returned (.string r)∧Below w.heap.size w w':=by
 induction k using Nat.strongRecOn with
 | _ k ih =>
 intro a0 r w h;cases k with
 | zero=>exact absurd h (by simp[yav.f])
 | succ k =>
 simp only[yav.f]at h;have HB:=zA (Below.refl w.heap.size w);have H:(if a0<(-9223372036854775807)then(some (⟨#[45,57,50,50,51,51,55,50,48,51,54,56,53,52,55,55,53,56,48,56]⟩:ByteArray))else(if a0<0 then((yav.f k (wrap64 (-a0))).bind fun dk=>(if 1+dk.size≤9223372036854775807 then(some ((⟨#[45]⟩:ByteArray)++dk))else(none)))else(if a0<10 then(some (strOfNums (([(wrap64 (48+a0))%256]:List Int))))else((yav.f k (wrap64 (Int.tdiv a0 10))).bind fun dW=>((some (([(wrap64 (48+(Int.tmod a0 10)))%256]:List Int):List Int)).bind fun nr=>(if dW.size+(strOfNums nr).size≤9223372036854775807 then(some (dW++(strOfNums nr)))else(none)))))))=some r:=h;clear h;obtain⟨c2b0,H⟩|⟨c2b0,H⟩:=zh H zkd zkNd
 ·obtain rfl:=zs H;go_enter func60,ntmps60;go_wp2;go_ret;exact⟨zT,zB⟩
 obtain⟨c3b0,H⟩|⟨c3b0,H⟩:=zh H zkd zkNd
 ·obtain⟨dk,A4,H⟩:=zM H;obtain⟨⟨c5b0,c5b1,c5b2,c5⟩,H⟩:=zp H zkLtdlk;obtain rfl:=zs H;go_enter func60,ntmps60;(go_wp2_with (first|((with_reducible refine zq2 (f:=60) rfl ?_);refine zq7 (some 9) rfl rfl func60 zY1 rfl #[.int .i64 (wrap64 (-a0))] rfl zY0 ?_;(with_reducible refine(ih k zY7 (wrap64 (-a0)) dk _ A4.out).mono ?_);rintro e w6 ⟨rfl,hb⟩;refine⟨_,rfl,?_⟩;replace HB:=zhb hb;clear hb)));go_ret;exact⟨zT,zB⟩
 obtain⟨c7b0,H⟩|⟨c7b0,H⟩:=zh H zkd zkNd
 ·obtain⟨K7,BE⟩:∃ y_:List Int,y_=(([(wrap64 (48+a0))%256]:List Int)):=⟨_,rfl⟩;replace H:(some (strOfNums K7))=some r:=zX BE H;have F8:=zA BE;clear BE;obtain rfl:=zs H;go_enter func60,ntmps60;(go_wp2_with (first|((with_reducible refine zq6 (N:=16) rfl ?_);refine Kd.R_lit (Kd.int .u8) _ 5 ?hg (N:=16) ?hd (xs:=([(wrap64 (48+a0))%256]:List Int)) (inner:=[.int .u8 ((wrap64 (48+a0))%256)]) (ok:=fun _=>True) (okp:=fun _=>True) ?hr ?hp (fun _ hk=>hk) trivial (Below.refl _ _) (Nat.le_refl _) zY13 ?_;(case hd=>rfl);(case hg=>rfl);(case hr=>first|(go_simp;done)|(go_simp;rfl));(case hp=>exact(Reps.one (show Kd.M (Kd.int .u8) _ _ _ ((wrap64 (48+a0))%256) [.int .u8 ((wrap64 (48+a0))%256)]from rfl) (Reps.none _ _)));intro V4 w8 uj hb hg_ hnew_;clear hg_ hnew_;(first|rw[← F8.out]at uj|(simp only[Int.reduceToNat]at uj;rw[← F8.out]at uj));have K8:=zA (Kd.z5 uj (zq3 zB));replace HB:=zhb hb;clear hb uj;have hcv10:=own_string (P:=prog) underlying22 underlying5 underlying9 (Kd.own_of_R K8.out))));go_ret;exact⟨zT,zB⟩
 obtain⟨dW,qj,H⟩:=zM H;obtain⟨nr,xe,H⟩:=zO H;obtain⟨⟨c12b0,c12b1,c12b2,jL⟩,H⟩:=zp H zkLtdlk;obtain rfl:=zs H;go_enter func60,ntmps60;go_wp2;replace HB:=zA (zq19 HB.out);refine start_ (n:=11) (S:=fun w'=>True) (ds:=[]) #[false,false,false,false,false,false,false,false,false,false,false] zY1 rfl rfl trivial (fun hHeld=>?_);refine with_tabW yav.tab7 yav.bits7 (fun HT_ HW_=>?_);generalize w.drew=iu at HB hHeld ⊢;refine pure_ (i:=0) (N:=some 18) (v:=?_) (a':=?_) #[true,false,false,false,false,false,false,false,false,false,false] rfl rfl (zq12 HT_.out zY1) (fun _ _ _ h=>h) (Or.inl ⟨by rfl,?_⟩) ?_ ?_;rotate_left
 ·intro w';go_simp;with_reducible rfl
 rotate_left
 ·simp only[Act.put,zL0,zL1,zL2,i64_w,i32_w];rfl
 refine pure_ (i:=1) (N:=some 19) (v:=?_) (a':=?_) #[true,true,false,false,false,false,false,false,false,false,false] rfl rfl (zq12 HT_.out zY1) (fun _ _ _ h=>h) (Or.inl ⟨by rfl,?_⟩) ?_ ?_;rotate_left
 ·intro w';go_simp;with_reducible rfl
 rotate_left
 ·simp only[Act.put,zL0,zL1,zL2,i64_w,i32_w];rfl
 refine pure_ (i:=3) (N:=some 21) (v:=?_) (a':=?_) #[true,true,false,true,false,false,false,false,false,false,false] rfl rfl (zq12 HT_.out zY1) (fun _ _ _ h=>h) (Or.inl ⟨by rfl,?_⟩) ?_ ?_;rotate_left
 ·intro w';go_simp;with_reducible rfl
 rotate_left
 ·simp only[Act.put,zL0,zL1,zL2,i64_w,i32_w];rfl
 refine pure_ (i:=4) (N:=some 22) (v:=?_) (a':=?_) #[true,true,false,true,true,false,false,false,false,false,false] rfl rfl (zq12 HT_.out zY1) (fun _ _ _ h=>h) (Or.inl ⟨by rfl,?_⟩) ?_ ?_;rotate_left
 ·intro w';go_simp;with_reducible rfl
 rotate_left
 ·simp only[Act.put,zL0,zL1,zL2,i64_w,i32_w];rfl
 refine pure_ (i:=5) (N:=some 23) (v:=?_) (a':=?_) #[true,true,false,true,true,true,false,false,false,false,false] rfl rfl (zq12 HT_.out zY1) (fun _ _ _ h=>h) (Or.inl ⟨by rfl,?_⟩) ?_ ?_;rotate_left
 ·intro w';go_simp;with_reducible rfl
 rotate_left
 ·simp only[Act.put,zL0,zL1,zL2,i64_w,i32_w];rfl
 refine pure_ (i:=6) (N:=some 24) (v:=?_) (a':=?_) #[true,true,false,true,true,true,true,false,false,false,false] rfl rfl (zq12 HT_.out zY1) (fun _ _ _ h=>h) (Or.inl ⟨by rfl,?_⟩) ?_ ?_;rotate_left
 ·intro w';go_simp;with_reducible rfl
 rotate_left
 ·simp only[Act.put,zL0,zL1,zL2,i64_w,i32_w];rfl
 refine join_ (σ:=Value) 2 #[true,true,true,true,true,true,true,true,true,false,false] (fun s_=>[(20,.string dW),(25,s_),(26,.string (strOfNums nr))]) (fun s_ w'=>(Kd.R (Kd.int .u8) 5 w' w.heap.size (fun _=>True) s_ nr)∧(Below w.heap.size w w')) ?_ ?_;rotate_left
 ·intro hCont;refine two_ (i:=2) (j:=7) (Ni:=some 20) (Nj:=some 25) #[true,true,true,true,true,true,true,false,false,false,false] #[true,true,false,true,true,true,true,true,false,false,false] rfl rfl rfl rfl (two_of HT_.out zY1) zY2 zY2 (fun K hK=>?_) (fun K hK=>?_)
  ·skip;refine goes_ func60 zY1 rfl #[.int .i64 (wrap64 (Int.tdiv a0 10))] zY19 rfl rfl zY0 ?_;(with_reducible refine(ih k zY7 (wrap64 (Int.tdiv a0 10)) dW _ qj.out).mono ?_);rintro e eT ⟨rfl,hb⟩;refine⟨_,rfl,?_⟩;replace HB:=zhb hb;clear hb;refine hK.out _ _ trivial (fun hHeld=>?_);clear hK K;refine norm_ (a':=?_) ?_ ?_;rotate_left
   ·show Act.put _ (some 20) _=_;simp only[Act.put,zL0,zL1,zL2,i64_w,i32_w];rfl
   refine one_ (i:=7) (N:=some 25) #[true,true,true,true,true,true,true,true,false,false,false] rfl rfl (one_of HT_.out zY1) zY2 (fun K hK=>?_);refine Kd.R_lit_step (Kd.int .u8) _ 5 ?hg (N:=25) ?hd (xs:=([(wrap64 (48+(Int.tmod a0 10)))%256]:List Int)) (inner:=[.int .u8 ((wrap64 (48+(Int.tmod a0 10)))%256)]) (ok:=fun _=>True) (okp:=fun _=>True) ?hr ?hp (fun _ hk=>hk) trivial (Below.refl _ _) (Nat.le_refl _) zY13 ?_;(case hd=>rfl);(case hg=>rfl);(case hr=>first|(go_simp;done)|(go_simp;rfl));(case hp=>exact(Reps.one (show Kd.M (Kd.int .u8) _ _ _ ((wrap64 (48+(Int.tmod a0 10)))%256) [.int .u8 ((wrap64 (48+(Int.tmod a0 10)))%256)]from rfl) (Reps.none _ _)));intro sf nt uk hb hg_ hnew_;clear hg_ hnew_;(first|rw[← xe.out]at uk|(simp only[Int.reduceToNat]at uk;rw[← xe.out]at uk));have kY:=zA (Kd.z5 uk (zq3 zB));replace HB:=zhb hb;clear hb uk;refine hK.out _ _ trivial (fun hHeld=>?_);clear hK K;refine norm_ (a':=?_) ?_ ?_;rotate_left
   ·show Act.put _ (some 25) _=_;simp only[Act.put,zL0,zL1,zL2,i64_w,i32_w];rfl
   refine one_ (i:=8) (N:=some 26) #[true,true,true,true,true,true,true,true,true,false,false] rfl rfl (one_of HT_.out zY1) zY2 (fun K hK=>?_);have hcv17:=own_string (P:=prog) underlying22 underlying5 underlying9 (Kd.own_of_R kY.out);refine value_ (w1:=?_) (v:=?_) zY19 rfl ?_ ?_;rotate_left 2
   ·go_simp;constructor
    ·rfl
    ·rfl
   clear hcv17;refine hK.out _ _ trivial (fun hHeld=>?_);clear hK K;refine norm_ (a':=?_) ?_ ?_;rotate_left
   ·show Act.put _ (some 26) _=_;simp only[Act.put,zL0,zL1,zL2,i64_w,i32_w];rfl
   exact norm_ zY33 (hCont (sf) _ ⟨(zVR kY.out),zB⟩)
  ·skip;refine Kd.R_lit_step (Kd.int .u8) _ 5 ?hg (N:=25) ?hd (xs:=([(wrap64 (48+(Int.tmod a0 10)))%256]:List Int)) (inner:=[.int .u8 ((wrap64 (48+(Int.tmod a0 10)))%256)]) (ok:=fun _=>True) (okp:=fun _=>True) ?hr ?hp (fun _ hk=>hk) trivial (Below.refl _ _) (Nat.le_refl _) zY13 ?_;(case hd=>rfl);(case hg=>rfl);(case hr=>first|(go_simp;done)|(go_simp;rfl));(case hp=>exact(Reps.one (show Kd.M (Kd.int .u8) _ _ _ ((wrap64 (48+(Int.tmod a0 10)))%256) [.int .u8 ((wrap64 (48+(Int.tmod a0 10)))%256)]from rfl) (Reps.none _ _)));intro sf eT ul hb hg_ hnew_;clear hg_ hnew_;(first|rw[← xe.out]at ul|(simp only[Int.reduceToNat]at ul;rw[← xe.out]at ul));have kY:=zA (Kd.z5 ul (zq3 zB));replace HB:=zhb hb;clear hb ul;refine hK.out _ _ trivial (fun hHeld=>?_);clear hK K;refine norm_ (a':=?_) ?_ ?_;rotate_left
   ·show Act.put _ (some 25) _=_;simp only[Act.put,zL0,zL1,zL2,i64_w,i32_w];rfl
   refine two_ (i:=2) (j:=8) (Ni:=some 20) (Nj:=some 26) #[true,true,true,true,true,true,true,true,false,false,false] #[true,true,false,true,true,true,true,true,true,false,false] rfl rfl rfl rfl (two_of HT_.out zY1) zY2 zY2 (fun K hK=>?_) (fun K hK=>?_)
   ·skip;refine goes_ func60 zY1 rfl #[.int .i64 (wrap64 (Int.tdiv a0 10))] zY19 rfl rfl zY0 ?_;(with_reducible refine(ih k zY7 (wrap64 (Int.tdiv a0 10)) dW _ qj.out).mono ?_);rintro e sg ⟨rfl,hb⟩;refine⟨_,rfl,?_⟩;replace kY:=zA (Kd.z3 (zVR kY.out) hb);replace HB:=zhb hb;clear hb;refine hK.out _ _ trivial (fun hHeld=>?_);clear hK K;refine norm_ (a':=?_) ?_ ?_;rotate_left
    ·show Act.put _ (some 20) _=_;simp only[Act.put,zL0,zL1,zL2,i64_w,i32_w];rfl
    refine one_ (i:=8) (N:=some 26) #[true,true,true,true,true,true,true,true,true,false,false] rfl rfl (one_of HT_.out zY1) zY2 (fun K hK=>?_);have hcv17:=own_string (P:=prog) underlying22 underlying5 underlying9 (Kd.own_of_R kY.out);refine value_ (w1:=?_) (v:=?_) zY19 rfl ?_ ?_;rotate_left 2
    ·go_simp;constructor
     ·rfl
     ·rfl
    clear hcv17;refine hK.out _ _ trivial (fun hHeld=>?_);clear hK K;refine norm_ (a':=?_) ?_ ?_;rotate_left
    ·show Act.put _ (some 26) _=_;simp only[Act.put,zL0,zL1,zL2,i64_w,i32_w];rfl
    exact norm_ zY33 (hCont (sf) _ ⟨(zVR kY.out),zB⟩)
   ·skip;have hcv16:=own_string (P:=prog) underlying22 underlying5 underlying9 (Kd.own_of_R kY.out);refine value_ (w1:=?_) (v:=?_) zY19 rfl ?_ ?_;rotate_left 2
    ·go_simp;constructor
     ·rfl
     ·rfl
    clear hcv16;refine hK.out _ _ trivial (fun hHeld=>?_);clear hK K;refine norm_ (a':=?_) ?_ ?_;rotate_left
    ·show Act.put _ (some 26) _=_;simp only[Act.put,zL0,zL1,zL2,i64_w,i32_w];rfl
    refine one_ (i:=2) (N:=some 20) #[true,true,true,true,true,true,true,true,true,false,false] rfl rfl (one_of HT_.out zY1) zY2 (fun K hK=>?_);refine goes_ func60 zY1 rfl #[.int .i64 (wrap64 (Int.tdiv a0 10))] zY19 rfl rfl zY0 ?_;(with_reducible refine(ih k zY7 (wrap64 (Int.tdiv a0 10)) dW _ qj.out).mono ?_);rintro e lG ⟨rfl,hb⟩;refine⟨_,rfl,?_⟩;replace kY:=zA (Kd.z3 (zVR kY.out) hb);replace HB:=zhb hb;clear hb;refine hK.out _ _ trivial (fun hHeld=>?_);clear hK K;refine norm_ (a':=?_) ?_ ?_;rotate_left
    ·show Act.put _ (some 20) _=_;simp only[Act.put,zL0,zL1,zL2,i64_w,i32_w];rfl
    exact norm_ zY33 (hCont (sf) _ ⟨(zVR kY.out),zB⟩)
 rintro sf kW ⟨h0_,h1_⟩;have am:Aside0 (Kd.R (Kd.int .u8) 5 kW w.heap.size (fun _=>True) sf nr):=⟨h0_⟩;have an:Aside0 (Below w.heap.size w kW):=⟨h1_⟩;clear HB h0_ h1_;have kY:=am;have HB:=an;clear am an;have hHeld:=trivial;refine norm_ (a':=?_) ?_ ?_;rotate_left
 ·simp only[putAll,Act.put,zL0,zL1,zL2];rfl
 refine pure_ (i:=9) (N:=some 27) (v:=?_) (a':=?_) #[true,true,true,true,true,true,true,true,true,true,false] rfl rfl (zq12 HT_.out zY1) (fun _ _ _ h=>h) (Or.inl ⟨by rfl,?_⟩) ?_ ?_;rotate_left
 ·intro w';go_simp;with_reducible rfl
 rotate_left
 ·simp only[Act.put,zL0,zL1,zL2,i64_w,i32_w];rfl
 refine pure_ (i:=10) (N:=some 2) (v:=?_) (a':=?_) #[true,true,true,true,true,true,true,true,true,true,true] rfl rfl (zq12 HT_.out zY1) (fun _ _ _ h=>h) (Or.inl ⟨by rfl,?_⟩) ?_ ?_;rotate_left
 ·intro w';go_simp;with_reducible rfl
 rotate_left
 ·simp only[Act.put,zL0,zL1,zL2,i64_w,i32_w];rfl
 refine done_ (done_of HT_.out zY1) ?_;go_wp2;go_ret;exact⟨zT,zB⟩
def ybe.f (ag:ByteArray)(ah:ByteArray):Option (ByteArray):=(yaN.f ag ah).bind fun fK=>(if fK=true then(some (⟨#[60,62]⟩:ByteArray))else(if 1+ag.size≤9223372036854775807 then(if((⟨#[60]⟩:ByteArray)++ag).size+1≤9223372036854775807 then(if(((⟨#[60]⟩:ByteArray)++ag)++(⟨#[64]⟩:ByteArray)).size+ah.size≤9223372036854775807 then(if((((⟨#[60]⟩:ByteArray)++ag)++(⟨#[64]⟩:ByteArray))++ah).size+1≤9223372036854775807 then(some (((((⟨#[60]⟩:ByteArray)++ag)++(⟨#[64]⟩:ByteArray))++ah)++(⟨#[62]⟩:ByteArray)))else(none))else(none))else(none))else(none)))
theorem ybe.calls (ag:ByteArray)(ah:ByteArray)(r:ByteArray)(w:World)(h:ybe.f ag ah=some r) :
 Calls prog 62 #[.agg #[.string ag,.string ah]] w fun e w'=>e=.returned (.string r)∧Below w.heap.size w w':=by
 have hu24:=underlying24;have HB:=zA (Below.refl w.heap.size w);have H:=h;clear h;unfold ybe.f at H;replace H:=zM H;obtain⟨fK,A2,H⟩:=H;replace H:=zbp H;obtain⟨rfl,H⟩|⟨rfl,H⟩:=H
 ·obtain rfl:=zs H;go_enter func62,ntmps62;(go_wp2_with (first|((with_reducible refine zq6 (N:=1) rfl ?_);refine zEa (N:=1) (cs:=#[.string ag,.string ah]) (t:=24) ?_;intro dt hg w4 bC hb;have lq:=zA (zS hg:w.heap.size≤dt);have lr:=zA (zS hg:w.heap.size≤dt);replace HB:=zhb hb;clear hb hg;obtain⟨_,_⟩:=zc2 bC.out;obtain⟨_,_⟩:=zf2 bC.out)|((with_reducible refine zq2 (f:=56) rfl ?_);refine zq7 (some 4) rfl rfl func56 zY1 rfl #[.agg #[.string ag,.string ah]] rfl zY0 ?_;(with_reducible refine(yaN.calls ag ah true _ A2.out).mono ?_);rintro e w6 ⟨rfl,hb⟩;refine⟨_,rfl,?_⟩;replace bC:=zA (zq1 (zK bC.out) hb);replace HB:=zhb hb;clear hb)));go_ret;exact⟨zT,zB⟩
 replace H:=zp H zkLtdlk;obtain⟨⟨c7b0,c7b1,c7b2,c7⟩,H⟩:=H;replace H:=zp H zkLtdlkk;obtain⟨⟨c8b0,c8b1,c8b2,c8b3,c8⟩,H⟩:=H;simp only[ByteArray.size_append',sz1,sz2,sz3,sz4,sz5,sz6,sz7,sz8]at c8b3;have c8b4:=eq_true c8b3;have c8b5:=eq_false (Nat.not_lt.2 c8b3);replace H:=zp H zkLtdlkk;obtain⟨⟨c9b0,c9b1,c9b2,c9b3,c9⟩,H⟩:=H;simp only[ByteArray.size_append',sz1,sz2,sz3,sz4,sz5,sz6,sz7,sz8]at c9b3;have c9b4:=eq_true c9b3;have c9b5:=eq_false (Nat.not_lt.2 c9b3);replace H:=zp H zkLtdlkk;obtain⟨⟨c10b0,c10b1,c10b2,c10b3,nu⟩,H⟩:=H;simp only[ByteArray.size_append',sz1,sz2,sz3,sz4,sz5,sz6,sz7,sz8]at c10b3;have c10b4:=eq_true c10b3;have c10b5:=eq_false (Nat.not_lt.2 c10b3);obtain rfl:=zs H;go_enter func62,ntmps62;go_wp2_with (first|((with_reducible refine zq6 (N:=1) rfl ?_);refine zEa (N:=1) (cs:=#[.string ag,.string ah]) (t:=24) ?_;intro dt hg jK bC hb;have lq:=zA (zS hg:w.heap.size≤dt);have lr:=zA (zS hg:w.heap.size≤dt);replace HB:=zhb hb;clear hb hg;obtain⟨_,_⟩:=zc2 bC.out;obtain⟨_,_⟩:=zf2 bC.out)|((with_reducible refine zq2 (f:=56) rfl ?_);refine zq7 (some 4) rfl rfl func56 zY1 rfl #[.agg #[.string ag,.string ah]] rfl zY0 ?_;(with_reducible refine(yaN.calls ag ah false _ A2.out).mono ?_);rintro e iu ⟨rfl,hb⟩;refine⟨_,rfl,?_⟩;replace bC:=zA (zq1 (zK bC.out) hb);replace HB:=zhb hb;clear hb;obtain⟨_,_⟩:=zc2 bC.out;obtain⟨_,_⟩:=zf2 bC.out))
 go_ret;exact⟨zT,zB⟩
def yaH.l0:Nat→List ByteArray→ByteArray→Int→Option (ByteArray)
 | 0,_,_,_=>none
 | k+1,x0,x3,x4=>if x4<(x0.length:Int)then(if 0≤x4 then(if(rdOf ByteArray.empty x0 x4).toList=([]:List UInt8)then(if x3.size+(rdOf ByteArray.empty x0 x4).size≤9223372036854775807 then(if(x3++(rdOf ByteArray.empty x0 x4)).size+2≤9223372036854775807 then(yaH.l0 k x0 ((x3++(rdOf ByteArray.empty x0 x4))++(⟨#[13,10]⟩:ByteArray)) (wrap64 (x4+1)))else(none))else(none))else(if 0<((rdOf ByteArray.empty x0 x4).size:Int)then(if(bt (rdOf ByteArray.empty x0 x4) 0)=46 then(if 1+(rdOf ByteArray.empty x0 x4).size≤9223372036854775807 then(if x3.size+((⟨#[46]⟩:ByteArray)++(rdOf ByteArray.empty x0 x4)).size≤9223372036854775807 then(if(x3++((⟨#[46]⟩:ByteArray)++(rdOf ByteArray.empty x0 x4))).size+2≤9223372036854775807 then(yaH.l0 k x0 ((x3++((⟨#[46]⟩:ByteArray)++(rdOf ByteArray.empty x0 x4)))++(⟨#[13,10]⟩:ByteArray)) (wrap64 (x4+1)))else(none))else(none))else(none))else(if x3.size+(rdOf ByteArray.empty x0 x4).size≤9223372036854775807 then(if(x3++(rdOf ByteArray.empty x0 x4)).size+2≤9223372036854775807 then(yaH.l0 k x0 ((x3++(rdOf ByteArray.empty x0 x4))++(⟨#[13,10]⟩:ByteArray)) (wrap64 (x4+1)))else(none))else(none)))else(none)))else(none))else(if x3.size+3≤9223372036854775807 then(some (x3++(⟨#[46,13,10]⟩:ByteArray)))else(none))
def yaH.f (k:Nat)(l0:List ByteArray):Option (ByteArray):=yaH.l0 k l0 (⟨#[]⟩:ByteArray) 0
theorem yaH.calls (k:Nat)(A0:Option Addr)(c0:Nat)(l0:List ByteArray)(r:ByteArray)(w:World)(cD:Kd.C Kd.string w A0 l0.length l0)(dz:l0.length≤c0)(h:yaH.f k l0=some r) :
 Calls prog 110 #[.slice A0 l0.length c0] w fun e w'=>e=.returned (.string r)∧Drawn0 w w':=by
 have dL:=zA cD;have fX:=zA dz;clear cD dz;have H:=h;clear h;unfold yaH.f at H;have H':=zA H;clear H;go_enter func110,ntmps110;go_wp2;go_loopg [3,4] k (fun kq v3 v4 w'=>∃(av:ByteArray) (aD:Int),v3=.string av∧v4=.int .i64 aD∧Aside0 (yaH.l0 kq l0 av aD=some r)∧Aside0 (kq≤k)∧Drawn0 w w')
 case atStart=>exact⟨(bz0),(0),zY3,zY3,H',⟨Nat.le_refl _⟩,by repeat(first|exact Drawn0.refl _|apply Drawn0.step)⟩
 case round =>
  clear H';obtain⟨av,aD,rfl,rfl,HA,HK1,⟨m1,rfl⟩⟩:=hrel;cases gk with
  | zero=>exact absurd HA.out (by simp[yaH.l0])
  | succ k1 =>
   have H:=HA.out;clear HA;simp only[yaH.l0]at H;obtain⟨c2b0,H⟩|⟨c2b0,H⟩:=zf H zkNd zkd
   ·obtain⟨⟨c15b0,c15b1,c15b2,oT⟩,H⟩:=zp H zkLtdlk;obtain rfl:=zs H;go_wp2;go_ret;exact⟨by first|rfl|(simp;done)|(simp[*];done),by repeat(first|exact Drawn0.refl _|apply Drawn0.step)⟩
   obtain⟨c3b0,H⟩:=zp H zkd;obtain⟨⟨c4b0,c4b1⟩,H⟩|⟨⟨c4b0,c4b1,c4⟩,H⟩:=zh H zkQqn zkQNqnk
   ·obtain⟨⟨c5b0,c5b1,c5b2,c5⟩,H⟩:=zp H zkLtdlk;obtain⟨⟨c6b0,c6b1,c6b2,c6b3,c6⟩,H⟩:=zp H zkLtdlkk;simp only[ByteArray.size_append',sz1,sz2,sz3,sz4,sz5,sz6,sz7,sz8]at c6b3;have c6b4:=eq_true c6b3;have c6b5:=eq_false (Nat.not_lt.2 c6b3);have H':=zA H;clear H;have gX:0≤(aD:Int):=zw;have gY:aD<(l0.length:Int):=zw;obtain⟨xa,no,xb⟩:=Kd.z16 dL.out aD gX gY;cases no;replace gX:=eq_true gX;replace gY:=eq_true gY;go_wp2;go_roundg k1;(case measure=>have:=HK1.out;omega);case rel=>exact⟨((av++(rdOf ByteArray.empty l0 aD))++bz5),(wrap64 (aD+1)),zY3,zY3,H',⟨by have:=HK1.out;omega⟩,by repeat(first|exact Drawn0.refl _|apply Drawn0.step)⟩
   obtain⟨⟨c7b0,c7⟩,H⟩:=zp H zkdk;have c7b1:decide (0<(rdOf ByteArray.empty l0 aD).size)=true:=decide_eq_true zY7;clear c7;obtain⟨⟨c9b0,c9b1,c9⟩,H⟩|⟨⟨c9b0,c9b1⟩,H⟩:=zf H zkQNqnk zkQqn
   ·obtain⟨⟨c13b0,c13b1,c13b2,ip⟩,H⟩:=zp H zkLtdlk;obtain⟨⟨c14b0,c14b1,c14b2,c14b3,fv⟩,H⟩:=zp H zkLtdlkk;simp only[ByteArray.size_append',sz1,sz2,sz3,sz4,sz5,sz6,sz7,sz8]at c14b3;have c14b4:=eq_true c14b3;have c14b5:=eq_false (Nat.not_lt.2 c14b3);have H':=zA H;clear H;have gX:0≤(aD:Int):=zw;have gY:aD<(l0.length:Int):=zw;obtain⟨xa,no,xb⟩:=Kd.z16 dL.out aD gX gY;cases no;replace gX:=eq_true gX;replace gY:=eq_true gY;have p8:0≤(0:Int):=zY7;have q8:0<(rdOf ByteArray.empty l0 aD).size:=(by have:(0:Int)<((rdOf ByteArray.empty l0 aD).size:Int):=zw;omega);have As:∀ h:0<(rdOf ByteArray.empty l0 aD).size,(((rdOf ByteArray.empty l0 aD)[0]'h).toNat:Int)=bt (rdOf ByteArray.empty l0 aD) 0:=bt_at (rdOf ByteArray.empty l0 aD) 0;clear p8;have qi8:(0<((rdOf ByteArray.empty l0 aD).size:Int))=True:=eq_true (zw);replace q8:=eq_true q8;go_wp2;go_roundg k1;(case measure=>have:=HK1.out;omega);case rel=>exact⟨((av++(rdOf ByteArray.empty l0 aD))++bz5),(wrap64 (aD+1)),zY3,zY3,H',⟨by have:=HK1.out;omega⟩,by repeat(first|exact Drawn0.refl _|apply Drawn0.step)⟩
   obtain⟨⟨c10b0,c10b1,c10b2,nu⟩,H⟩:=zp H zkLtdlk;obtain⟨⟨c11b0,c11b1,c11b2,c11b3,mB⟩,H⟩:=zp H zkLtdlkk;simp only[ByteArray.size_append',sz1,sz2,sz3,sz4,sz5,sz6,sz7,sz8]at c11b3;have c11b4:=eq_true c11b3;have c11b5:=eq_false (Nat.not_lt.2 c11b3);obtain⟨⟨c12b0,c12b1,c12b2,c12b3,jL⟩,H⟩:=zp H zkLtdlkk;simp only[ByteArray.size_append',sz1,sz2,sz3,sz4,sz5,sz6,sz7,sz8]at c12b3;have c12b4:=eq_true c12b3;have c12b5:=eq_false (Nat.not_lt.2 c12b3);have H':=zA H;clear H;have gX:0≤(aD:Int):=zw;have gY:aD<(l0.length:Int):=zw;obtain⟨xa,no,xb⟩:=Kd.z16 dL.out aD gX gY;cases no;replace gX:=eq_true gX;replace gY:=eq_true gY;have p8:0≤(0:Int):=zY7;have q8:0<(rdOf ByteArray.empty l0 aD).size:=(by have:(0:Int)<((rdOf ByteArray.empty l0 aD).size:Int):=zw;omega);have As:∀ h:0<(rdOf ByteArray.empty l0 aD).size,(((rdOf ByteArray.empty l0 aD)[0]'h).toNat:Int)=bt (rdOf ByteArray.empty l0 aD) 0:=bt_at (rdOf ByteArray.empty l0 aD) 0;clear p8;have qi8:(0<((rdOf ByteArray.empty l0 aD).size:Int))=True:=eq_true (zw);replace q8:=eq_true q8;go_wp2;go_roundg k1;(case measure=>have:=HK1.out;omega);case rel=>exact⟨((av++(bz6++(rdOf ByteArray.empty l0 aD)))++bz5),(wrap64 (aD+1)),zY3,zY3,H',⟨by have:=HK1.out;omega⟩,by repeat(first|exact Drawn0.refl _|apply Drawn0.step)⟩
def ya2.l0:Nat→ByteArray→Int→ByteArray→ByteArray→List (S24)→List ByteArray→Option (ByteArray)
 | 0,_,_,_,_,_,_=>none
 | k+1,x3,x4,um,BF,sh,xf=>if x4<(sh.length:Int)then(if x3.size+3≤9223372036854775807 then(if 0≤x4 then((ybe.f ((zq13 sh x4).f0) ((zq13 sh x4).f1)).bind fun dW=>(if(x3++(⟨#[116,111,32]⟩:ByteArray)).size+dW.size≤9223372036854775807 then(if((x3++(⟨#[116,111,32]⟩:ByteArray))++dW).size+2≤9223372036854775807 then(ya2.l0 k (((x3++(⟨#[116,111,32]⟩:ByteArray))++dW)++(⟨#[13,10]⟩:ByteArray)) (wrap64 (x4+1)) um BF sh xf)else(none))else(none)))else(none))else(none))else(if x3.size+2≤9223372036854775807 then((yaH.f k xf).bind fun jv=>(if(x3++(⟨#[13,10]⟩:ByteArray)).size+jv.size≤9223372036854775807 then(some ((x3++(⟨#[13,10]⟩:ByteArray))++jv))else(none)))else(none))
def ya2.f (k:Nat)(ag:ByteArray)(ah:ByteArray)(az:List (S24))(bb:List ByteArray):Option (ByteArray):=(ybe.f ag ah).bind fun fc=>(if 5+fc.size≤9223372036854775807 then(if((⟨#[102,114,111,109,32]⟩:ByteArray)++fc).size+2≤9223372036854775807 then(ya2.l0 k (((⟨#[102,114,111,109,32]⟩:ByteArray)++fc)++(⟨#[13,10]⟩:ByteArray)) 0 ag ah az bb)else(none))else(none))
theorem ya2.calls (k:Nat)(ag:ByteArray)(ah:ByteArray)(du:Option Addr)(dh:Nat)(az:List (S24))(cB:Option Addr)(cC:Nat)(bb:List ByteArray)(r:ByteArray)(w:World)(iE:Kd.C k24 w du az.length az)(iF:az.length≤dh)(gL:Kd.C Kd.string w cB bb.length bb)(gM:bb.length≤cC)(h:ya2.f k ag ah az bb=some r) :
 Calls prog 61 #[.agg #[.string ag,.string ah,.slice du az.length dh,.slice cB bb.length cC]] w fun e w'=>e=.returned (.string r)∧Below w.heap.size w w':=by
 have hu28:=underlying28;have hu24:=underlying24;have fY:=zA iE;have jI:=zA iF;clear iE iF;have gw:=zA gL;have iq:=zA gM;clear gL gM;have HB:=zA (Below.refl w.heap.size w);have H:=h;clear h;unfold ya2.f at H;obtain⟨fc,A2,H⟩:=zM H;obtain⟨⟨c3b0,c3b1,c3b2,c3⟩,H⟩:=zp H zkLtdlk;obtain⟨⟨c4b0,c4b1,c4b2,c4b3,c4⟩,H⟩:=zp H zkLtdlkk;simp only[ByteArray.size_append',sz1,sz2,sz3,sz4,sz5,sz6,sz7,sz8]at c4b3;have c4b4:=eq_true c4b3;have c4b5:=eq_false (Nat.not_lt.2 c4b3);have H':=zA H;clear H;go_enter func61,ntmps61;go_wp2_with (first|((with_reducible refine zq6 (N:=1) rfl ?_);refine zEa (N:=1) (cs:=#[.string ag,.string ah,.slice du az.length dh,.slice cB bb.length cC]) (t:=28) ?_;intro i7 hg w5 bA hb;have xg:=zA (zS hg:w.heap.size≤i7);have xh:=zA (zS hg:w.heap.size≤i7);replace HB:=zhb hb;clear hb hg;obtain⟨BG,BH,K9,La⟩:=zc4 bA.out;obtain⟨Lb,BI,Lc,Ld⟩:=zf4 bA.out)|((with_reducible refine zq2 (f:=62) rfl ?_);refine zq7 (some 7) rfl rfl func62 zY1 rfl #[.agg #[.string ag,.string ah]] rfl zY0 ?_;(with_reducible refine(ybe.calls ag ah fc _ A2.out).mono ?_);rintro e w7 ⟨rfl,hb⟩;refine⟨_,rfl,?_⟩;replace bA:=zA (zq1 (zK bA.out) hb);replace HB:=zhb hb;clear hb))
 go_loopg [3,4] k (fun kq v3 v4 w'=>∃(av:ByteArray) (aD:Int),v3=.string av∧v4=.int .i64 aD∧Aside0 (ya2.l0 kq av aD ag ah az bb=some r)∧Aside0 (kq≤k)∧Aside0 (w'.heap[i7]?=some (.cells #[.string ag,.string ah,(.slice du az.length dh),(.slice cB bb.length cC)] 28 (0,0)))∧Aside0 (Below w.heap.size w w'))
 case atStart=>exact⟨((bz10++fc)++bz5),(0),zY3,zY3,H',⟨Nat.le_refl _⟩,⟨zK bA.out⟩,⟨zB⟩⟩
 case round =>
  clear H';clear c3 c3b0 c3b1 c3b2 c4 c4b0 c4b1 c4b2 BG BH K9 La Lb BI Lc Ld;obtain⟨av,aD,rfl,rfl,HA,HK1,bA,HB⟩:=hrel;cases gk with
  | zero=>exact absurd HA.out (by simp[ya2.l0])
  | succ k1 =>
   have H:=HA.out;clear HA;simp only[ya2.l0]at H;obtain⟨c8b0,H⟩|⟨c8b0,H⟩:=zf H zkNd zkd
   ·obtain⟨⟨c16b0,c16b1,c16b2,nq⟩,H⟩:=zp H zkLtdlk;obtain⟨jv,ga,H⟩:=zM H;obtain⟨⟨c18b0,c18b1,c18b2,c18b3,un⟩,H⟩:=zp H zkLtdlkk;simp only[ByteArray.size_append',sz1,sz2,sz3,sz4,sz5,sz6,sz7,sz8]at c18b3;have c18b4:=eq_true c18b3;have c18b5:=eq_false (Nat.not_lt.2 c18b3);obtain rfl:=zs H;obtain⟨_,_,_,_⟩:=zc4 bA.out;obtain⟨_,_,_,_⟩:=zf4 bA.out;(go_wp2_with (first|((with_reducible refine zq2 (f:=110) rfl ?_);refine zq7 (some 31) rfl rfl func110 zY1 rfl #[.slice cB bb.length cC] rfl zY0 ?_;(with_reducible refine(yaH.calls k1 _ _ bb jv _ ?side1 ?side2 ga.out).mono ?_);(case side1=>exact zC (Kd.z0 gw.out HB.out));(case side2=>exact iq.out);rintro e w' ⟨rfl,⟨nd,rfl⟩⟩;refine⟨_,rfl,?_⟩)));go_ret;exact⟨zT,zB⟩
   obtain⟨⟨c9b0,c9b1,c9b2,c9⟩,H⟩:=zp H zkLtdlk;obtain⟨c10b0,H⟩:=zp H zkd;obtain⟨dW,qj,H⟩:=zM H;obtain⟨⟨c12b0,c12b1,c12b2,c12b3,jL⟩,H⟩:=zp H zkLtdlkk;simp only[ByteArray.size_append',sz1,sz2,sz3,sz4,sz5,sz6,sz7,sz8]at c12b3;have c12b4:=eq_true c12b3;have c12b5:=eq_false (Nat.not_lt.2 c12b3);obtain⟨⟨c13b0,c13b1,c13b2,c13b3,ip⟩,H⟩:=zp H zkLtdlkk;simp only[ByteArray.size_append',sz1,sz2,sz3,sz4,sz5,sz6,sz7,sz8]at c13b3;have c13b4:=eq_true c13b3;have c13b5:=eq_false (Nat.not_lt.2 c13b3);have H':=zA H;clear H;obtain⟨_,_,_,_⟩:=zc4 bA.out;obtain⟨_,_,_,_⟩:=zf4 bA.out;have fq:0≤(aD:Int):=zw;have ft:aD<(az.length:Int):=zw;obtain⟨lz,lA,ir,i6⟩:=at_T24 fY.out aD fq ft;cases lA;replace ir:=(HB.out.cell (World.block_lt_of_cell? w _ ir)).trans ir;replace i6:=(HB.out.cell (World.block_lt_of_cell? w _ i6)).trans i6;replace fq:=eq_true fq;replace ft:=eq_true ft;(go_wp2_with (first|((with_reducible refine zq2 (f:=62) rfl ?_);refine zq7 (some 24) rfl rfl func62 zY1 rfl #[.agg #[.string ((zq13 az aD).f0),.string ((zq13 az aD).f1)]] rfl zY0 ?_;(with_reducible refine(ybe.calls ((zq13 az aD).f0) ((zq13 az aD).f1) dW _ qj.out).mono ?_);rintro e nt ⟨rfl,hb⟩;refine⟨_,rfl,?_⟩;replace bA:=zA (zq1 (zK bA.out) hb);replace HB:=zhb hb;clear hb)));go_roundg k1;(case measure=>have:=HK1.out;omega);case rel=>exact⟨(((av++bz11)++dW)++bz5),(wrap64 (aD+1)),zY3,zY3,H',⟨by have:=HK1.out;omega⟩,⟨zK bA.out⟩,⟨zB⟩⟩
def yal.f (k:Nat)(ag:Int)(ah:Int)(aT:ByteArray)(bi:ByteArray)(bu:Int)(bk:ByteArray)(bm:ByteArray)(aX:List (S24))(aY:List ByteArray):Option (ByteArray):=if ag=1 then((yav.f k bu).bind fun gK=>(if 4+gK.size≤9223372036854775807 then(if((⟨#[97,100,100,32]⟩:ByteArray)++gK).size+1≤9223372036854775807 then((ya2.f k bk bm aX aY).bind fun iD=>(if(((⟨#[97,100,100,32]⟩:ByteArray)++gK)++(⟨#[10]⟩:ByteArray)).size+iD.size≤9223372036854775807 then(some ((((⟨#[97,100,100,32]⟩:ByteArray)++gK)++(⟨#[10]⟩:ByteArray))++iD))else(none)))else(none))else(none)))else(if ag=2 then((yav.f k ah).bind fun dy=>(if 5+dy.size≤9223372036854775807 then(if((⟨#[100,111,110,101,32]⟩:ByteArray)++dy).size+1≤9223372036854775807 then((ybe.f aT bi).bind fun iZ=>(if(((⟨#[100,111,110,101,32]⟩:ByteArray)++dy)++(⟨#[32]⟩:ByteArray)).size+iZ.size≤9223372036854775807 then(some ((((⟨#[100,111,110,101,32]⟩:ByteArray)++dy)++(⟨#[32]⟩:ByteArray))++iZ))else(none)))else(none))else(none)))else((yav.f k ah).bind fun fL=>(if 6+fL.size≤9223372036854775807 then(if((⟨#[108,97,116,101,114,32]⟩:ByteArray)++fL).size+1≤9223372036854775807 then((ybe.f aT bi).bind fun fM=>(if(((⟨#[108,97,116,101,114,32]⟩:ByteArray)++fL)++(⟨#[32]⟩:ByteArray)).size+fM.size≤9223372036854775807 then(if((((⟨#[108,97,116,101,114,32]⟩:ByteArray)++fL)++(⟨#[32]⟩:ByteArray))++fM).size+1≤9223372036854775807 then((yav.f k bu).bind fun pJ=>(if(((((⟨#[108,97,116,101,114,32]⟩:ByteArray)++fL)++(⟨#[32]⟩:ByteArray))++fM)++(⟨#[32]⟩:ByteArray)).size+pJ.size≤9223372036854775807 then(some ((((((⟨#[108,97,116,101,114,32]⟩:ByteArray)++fL)++(⟨#[32]⟩:ByteArray))++fM)++(⟨#[32]⟩:ByteArray))++pJ))else(none)))else(none))else(none)))else(none))else(none))))
def yal.T3:Bool × List (List Nat × List Nat):=(true,[([],[]),([0],[0]),([1],[1]),([2],[2]),([3],[3]),([],[]),([5],[5]),([6,2],[6]),([4,7],[4,7]),([8,7,0,1,2,3,4,5,6,7,8],[8])])
def yal.B3:List Nat:=[0,1,3,7,15,0,32,103,255,511]
theorem yal.tab3:rtab .any (opsOf Tryz.f26 3)=yal.T3:=by kernel_rfl
theorem yal.bits3:waitsOk yal.T3.2 yal.B3=true:=by kernel_rfl
def yal.T5:Bool × List (List Nat × List Nat):=(true,[([],[]),([0],[0]),([1],[1]),([2],[2]),([3],[3]),([],[]),([5],[5]),([6,2],[6]),([4,7],[4,7]),([8,7,0,1,2,3,4,5,6,7,8],[8])])
def yal.B5:List Nat:=[0,1,3,7,15,0,32,103,255,511]
theorem yal.tab5:rtab .any (opsOf Tryz.f26 5)=yal.T5:=by kernel_rfl
theorem yal.bits5:waitsOk yal.T5.2 yal.B5=true:=by kernel_rfl
def yal.T6:Bool × List (List Nat × List Nat):=(true,[([],[]),([0],[0]),([1],[1]),([2],[2]),([3],[3]),([],[]),([5],[5]),([6,2],[6]),([4,7],[4,7]),([8],[8]),([],[]),([10],[10]),([11,7],[11]),([9,12],[9,12]),([13,12,0,1,2,3,4,5,6,7,8,9,10,11,12,13],[13])])
def yal.B6:List Nat:=[0,1,3,7,15,0,32,103,255,511,0,1024,3303,8191,16383]
theorem yal.tab6:rtab .any (opsOf Tryz.f26 6)=yal.T6:=by kernel_rfl
theorem yal.bits6:waitsOk yal.T6.2 yal.B6=true:=by kernel_rfl
theorem yal.calls (k:Nat)(ag:Int)(ah:Int)(aT:ByteArray)(bi:ByteArray)(bu:Int)(bk:ByteArray)(bm:ByteArray)(cv:Option Addr)(cw:Nat)(aX:List (S24))(cx:Option Addr)(cy:Nat)(aY:List ByteArray)(r:ByteArray)(w:World)(iG:Kd.C k24 w cv aX.length aX)(iH:aX.length≤cw)(iI:Kd.C Kd.string w cx aY.length aY)(iJ:aY.length≤cy)(h:yal.f k ag ah aT bi bu bk bm aX aY=some r) :
 Calls prog 26 #[.agg #[.int .i64 ag,.int .i64 ah,.string aT,.string bi,.int .i64 bu,.string bk,.string bm,.slice cv aX.length cw,.slice cx aY.length cy]] w fun e w'=>e=.returned (.string r)∧Below w.heap.size w w':=by
 have hu30:=underlying30;have hu28:=underlying28;have hu24:=underlying24;have fZ:=zA iG;have f6:=zA iH;clear iG iH;have f7:=zA iI;have f9:=zA iJ;clear iI iJ;have HB:=zA (Below.refl w.heap.size w);have H:=h;clear h;unfold yal.f at H;obtain⟨⟨c2b0,c2b1⟩,H⟩|⟨⟨c2b0,c2b1,c2⟩,H⟩:=zh H zkQqn zkQNqnk
 ·obtain⟨gK,A3,H⟩:=zM H;obtain⟨⟨c4b0,c4b1,c4b2,c4⟩,H⟩:=zp H zkLtdlk;obtain⟨⟨c5b0,c5b1,c5b2,c5b3,c5⟩,H⟩:=zp H zkLtdlkk;simp only[ByteArray.size_append',sz1,sz2,sz3,sz4,sz5,sz6,sz7,sz8]at c5b3;have c5b4:=eq_true c5b3;have c5b5:=eq_false (Nat.not_lt.2 c5b3);obtain⟨iD,A6,H⟩:=zM H;obtain⟨⟨c7b0,c7b1,c7b2,c7b3,c7⟩,H⟩:=zp H zkLtdlkk;simp only[ByteArray.size_append',sz1,sz2,sz3,sz4,sz5,sz6,sz7,sz8]at c7b3;have c7b4:=eq_true c7b3;have c7b5:=eq_false (Nat.not_lt.2 c7b3);obtain rfl:=zs H;go_enter func26,ntmps26;(try go_wp2_with (first|((with_reducible refine zq6 (N:=1) rfl ?_);refine zEa (N:=1) (cs:=#[.int .i64 ag,.int .i64 ah,.string aT,.string bi,.int .i64 bu,.string bk,.string bm,.slice cv aX.length cw,.slice cx aY.length cy]) (t:=30) ?_;intro dX hg w8 aM hb;have F9:=zA (zS hg:w.heap.size≤dX);have Ga:=zA (zS hg:w.heap.size≤dX);replace HB:=zhb hb;clear hb hg;obtain⟨_,_,_,_,_,_,_,_,_⟩:=zc9 aM.out;obtain⟨_,_,_,_,_,_,_,_,_⟩:=zf9 aM.out)));replace aM:=zA (blk_drew aM.out);replace HB:=zA (zq19 HB.out);refine start_ (n:=10) (S:=fun w'=>w'.cell? ⟨dX,0,none⟩=some (.int .i64 ag)∧w'.cell? ⟨dX,1,none⟩=some (.int .i64 ah)∧w'.cell? ⟨dX,2,none⟩=some (.string aT)∧w'.cell? ⟨dX,3,none⟩=some (.string bi)∧w'.cell? ⟨dX,4,none⟩=some (.int .i64 bu)∧w'.cell? ⟨dX,5,none⟩=some (.string bk)∧w'.cell? ⟨dX,6,none⟩=some (.string bm)∧w'.cell? ⟨dX,7,none⟩=some (.slice cv aX.length cw)∧w'.cell? ⟨dX,8,none⟩=some (.slice cx aY.length cy)) (ds:=[]) #[false,false,false,false,false,false,false,false,false,false] zY1 rfl rfl ⟨zq0 aM.out 0,zq0 aM.out 1,zq0 aM.out 2,zq0 aM.out 3,zq0 aM.out 4,zq0 aM.out 5,zq0 aM.out 6,zq0 aM.out 7,zq0 aM.out 8⟩ (fun hHeld=>?_);refine with_tabW yal.tab3 yal.bits3 (fun HT_ HW_=>?_);generalize w8.drew=eI at aM HB hHeld ⊢;refine pure_ (i:=0) (N:=some 7) (v:=?_) (a':=?_) #[true,false,false,false,false,false,false,false,false,false] rfl rfl (zq12 HT_.out zY1) (fun _ _ _ h=>h) (Or.inl ⟨by rfl,?_⟩) ?_ ?_;rotate_left
  ·intro w';go_simp;with_reducible rfl
  rotate_left
  ·simp only[Act.put,zL0,zL1,zL2,i64_w,i32_w];rfl
  refine pure_ (i:=5) (N:=some 12) (v:=?_) (a':=?_) #[true,false,false,false,false,true,false,false,false,false] rfl rfl (zq12 HT_.out zY1) (fun _ _ _ h=>h) (Or.inl ⟨by rfl,?_⟩) ?_ ?_;rotate_left
  ·intro w';go_simp;with_reducible rfl
  rotate_left
  ·simp only[Act.put,zL0,zL1,zL2,i64_w,i32_w];rfl
  refine take_ (i:=1) (N:=some 8) (v:=?_) (a':=?_) #[true,true,false,false,false,true,false,false,false,false] rfl rfl (take_ofW HT_.out HW_.out zY1) (fun _ _ _ h=>h) (Or.inl ⟨by rfl,?_⟩) hHeld ?_ ?_;rotate_left
  ·rintro w' ⟨s0,s1,s2,s3,s4,s5,s6,s7,s8⟩;go_simp;with_reducible rfl
  rotate_left
  ·simp only[Act.put,zL0,zL1,zL2,i64_w,i32_w];rfl
  refine take_ (i:=6) (N:=some 13) (v:=?_) (a':=?_) #[true,true,false,false,false,true,true,false,false,false] rfl rfl (take_ofW HT_.out HW_.out zY1) (fun _ _ _ h=>h) (Or.inl ⟨by rfl,?_⟩) hHeld ?_ ?_;rotate_left
  ·rintro w' ⟨s0,s1,s2,s3,s4,s5,s6,s7,s8⟩;go_simp;with_reducible rfl
  rotate_left
  ·simp only[Act.put,zL0,zL1,zL2,i64_w,i32_w];rfl
  refine one_ (i:=2) (N:=some 9) #[true,true,true,false,false,true,true,false,false,false] rfl rfl (one_of HT_.out zY1) zY2 (fun K hK=>?_);refine goes_ func60 zY1 rfl #[.int .i64 bu] zY19 rfl rfl zY0 ?_;(with_reducible refine(yav.calls k bu gK _ A3.out).mono ?_);rintro e jK ⟨rfl,hb⟩;refine⟨_,rfl,?_⟩;replace aM:=zA (zq1 (zK aM.out) hb);replace HB:=zhb hb;clear hb;refine hK.out _ _ ⟨zq0 aM.out 0,zq0 aM.out 1,zq0 aM.out 2,zq0 aM.out 3,zq0 aM.out 4,zq0 aM.out 5,zq0 aM.out 6,zq0 aM.out 7,zq0 aM.out 8⟩ (fun hHeld=>?_);clear hK K;refine norm_ (a':=?_) ?_ ?_;rotate_left
  ·show Act.put _ (some 9) _=_;simp only[Act.put,zL0,zL1,zL2,i64_w,i32_w];rfl
  refine pure_ (i:=3) (N:=some 10) (v:=?_) (a':=?_) #[true,true,true,true,false,true,true,false,false,false] rfl rfl (zq12 HT_.out zY1) (fun _ _ _ h=>h) (Or.inl ⟨by rfl,?_⟩) ?_ ?_;rotate_left
  ·intro w';go_simp;with_reducible rfl
  rotate_left
  ·simp only[Act.put,zL0,zL1,zL2,i64_w,i32_w];rfl
  refine pure_ (i:=4) (N:=some 11) (v:=?_) (a':=?_) #[true,true,true,true,true,true,true,false,false,false] rfl rfl (zq12 HT_.out zY1) (fun _ _ _ h=>h) (Or.inl ⟨by rfl,?_⟩) ?_ ?_;rotate_left
  ·intro w';go_simp;with_reducible rfl
  rotate_left
  ·simp only[Act.put,zL0,zL1,zL2,i64_w,i32_w];rfl
  refine one_ (i:=7) (N:=some 14) #[true,true,true,true,true,true,true,true,false,false] rfl rfl (one_of HT_.out zY1) zY2 (fun K hK=>?_);refine goes_ func61 zY1 rfl #[.agg #[.string bk,.string bm,.slice cv aX.length cw,.slice cx aY.length cy]] zY19 rfl rfl zY0 ?_;(with_reducible refine(ya2.calls k bk bm _ _ aX _ _ aY iD _ ?side1 ?side2 ?side3 ?side4 A6.out).mono ?_);(case side1=>exact zC (Kd.z0 fZ.out HB.out));(case side2=>exact f6.out);(case side3=>exact zC (Kd.z0 f7.out HB.out));(case side4=>exact f9.out);rintro e fe ⟨rfl,hb⟩;refine⟨_,rfl,?_⟩;replace aM:=zA (zq1 (zK aM.out) hb);replace HB:=zhb hb;clear hb;refine hK.out _ _ ⟨zq0 aM.out 0,zq0 aM.out 1,zq0 aM.out 2,zq0 aM.out 3,zq0 aM.out 4,zq0 aM.out 5,zq0 aM.out 6,zq0 aM.out 7,zq0 aM.out 8⟩ (fun hHeld=>?_);clear hK K;refine norm_ (a':=?_) ?_ ?_;rotate_left
  ·show Act.put _ (some 14) _=_;simp only[Act.put,zL0,zL1,zL2,i64_w,i32_w];rfl
  refine pure_ (i:=8) (N:=some 15) (v:=?_) (a':=?_) #[true,true,true,true,true,true,true,true,true,false] rfl rfl (zq12 HT_.out zY1) (fun _ _ _ h=>h) (Or.inl ⟨by rfl,?_⟩) ?_ ?_;rotate_left
  ·intro w';go_simp;with_reducible rfl
  rotate_left
  ·simp only[Act.put,zL0,zL1,zL2,i64_w,i32_w];rfl
  refine pure_ (i:=9) (N:=some 2) (v:=?_) (a':=?_) #[true,true,true,true,true,true,true,true,true,true] rfl rfl (zq12 HT_.out zY1) (fun _ _ _ h=>h) (Or.inl ⟨by rfl,?_⟩) ?_ ?_;rotate_left
  ·intro w';go_simp;with_reducible rfl
  rotate_left
  ·simp only[Act.put,zL0,zL1,zL2,i64_w,i32_w];rfl
  refine done_ (done_of HT_.out zY1) ?_;go_wp2;go_ret;exact⟨zT,zB⟩
 obtain⟨⟨c13b0,c13b1⟩,H⟩|⟨⟨c13b0,c13b1,ip⟩,H⟩:=zh H zkQqn zkQNqnk
 ·obtain⟨dy,Le,H⟩:=zM H;obtain⟨⟨c15b0,c15b1,c15b2,oT⟩,H⟩:=zp H zkLtdlk;obtain⟨⟨c16b0,c16b1,c16b2,c16b3,nq⟩,H⟩:=zp H zkLtdlkk;simp only[ByteArray.size_append',sz1,sz2,sz3,sz4,sz5,sz6,sz7,sz8]at c16b3;have c16b4:=eq_true c16b3;have c16b5:=eq_false (Nat.not_lt.2 c16b3);obtain⟨iZ,ga,H⟩:=zM H;obtain⟨⟨c18b0,c18b1,c18b2,c18b3,un⟩,H⟩:=zp H zkLtdlkk;simp only[ByteArray.size_append',sz1,sz2,sz3,sz4,sz5,sz6,sz7,sz8]at c18b3;have c18b4:=eq_true c18b3;have c18b5:=eq_false (Nat.not_lt.2 c18b3);obtain rfl:=zs H;go_enter func26,ntmps26;(try go_wp2_with (first|((with_reducible refine zq6 (N:=1) rfl ?_);refine zEa (N:=1) (cs:=#[.int .i64 ag,.int .i64 ah,.string aT,.string bi,.int .i64 bu,.string bk,.string bm,.slice cv aX.length cw,.slice cx aY.length cy]) (t:=30) ?_;intro dX hg ff aM hb;have F9:=zA (zS hg:w.heap.size≤dX);have Ga:=zA (zS hg:w.heap.size≤dX);replace HB:=zhb hb;clear hb hg;obtain⟨_,_,_,_,_,_,_,_,_⟩:=zc9 aM.out;obtain⟨_,_,_,_,_,_,_,_,_⟩:=zf9 aM.out)));replace aM:=zA (blk_drew aM.out);replace HB:=zA (zq19 HB.out);refine start_ (n:=10) (S:=fun w'=>w'.cell? ⟨dX,0,none⟩=some (.int .i64 ag)∧w'.cell? ⟨dX,1,none⟩=some (.int .i64 ah)∧w'.cell? ⟨dX,2,none⟩=some (.string aT)∧w'.cell? ⟨dX,3,none⟩=some (.string bi)∧w'.cell? ⟨dX,4,none⟩=some (.int .i64 bu)∧w'.cell? ⟨dX,5,none⟩=some (.string bk)∧w'.cell? ⟨dX,6,none⟩=some (.string bm)∧w'.cell? ⟨dX,7,none⟩=some (.slice cv aX.length cw)∧w'.cell? ⟨dX,8,none⟩=some (.slice cx aY.length cy)) (ds:=[]) #[false,false,false,false,false,false,false,false,false,false] zY1 rfl rfl ⟨zq0 aM.out 0,zq0 aM.out 1,zq0 aM.out 2,zq0 aM.out 3,zq0 aM.out 4,zq0 aM.out 5,zq0 aM.out 6,zq0 aM.out 7,zq0 aM.out 8⟩ (fun hHeld=>?_);refine with_tabW yal.tab5 yal.bits5 (fun HT_ HW_=>?_);generalize ff.drew=Gb at aM HB hHeld ⊢;refine pure_ (i:=0) (N:=some 18) (v:=?_) (a':=?_) #[true,false,false,false,false,false,false,false,false,false] rfl rfl (zq12 HT_.out zY1) (fun _ _ _ h=>h) (Or.inl ⟨by rfl,?_⟩) ?_ ?_;rotate_left
  ·intro w';go_simp;with_reducible rfl
  rotate_left
  ·simp only[Act.put,zL0,zL1,zL2,i64_w,i32_w];rfl
  refine pure_ (i:=5) (N:=some 23) (v:=?_) (a':=?_) #[true,false,false,false,false,true,false,false,false,false] rfl rfl (zq12 HT_.out zY1) (fun _ _ _ h=>h) (Or.inl ⟨by rfl,?_⟩) ?_ ?_;rotate_left
  ·intro w';go_simp;with_reducible rfl
  rotate_left
  ·simp only[Act.put,zL0,zL1,zL2,i64_w,i32_w];rfl
  refine take_ (i:=1) (N:=some 19) (v:=?_) (a':=?_) #[true,true,false,false,false,true,false,false,false,false] rfl rfl (take_ofW HT_.out HW_.out zY1) (fun _ _ _ h=>h) (Or.inl ⟨by rfl,?_⟩) hHeld ?_ ?_;rotate_left
  ·rintro w' ⟨s0,s1,s2,s3,s4,s5,s6,s7,s8⟩;go_simp;with_reducible rfl
  rotate_left
  ·simp only[Act.put,zL0,zL1,zL2,i64_w,i32_w];rfl
  refine take_ (i:=6) (N:=some 24) (v:=?_) (a':=?_) #[true,true,false,false,false,true,true,false,false,false] rfl rfl (take_ofW HT_.out HW_.out zY1) (fun _ _ _ h=>h) (Or.inl ⟨by rfl,?_⟩) hHeld ?_ ?_;rotate_left
  ·rintro w' ⟨s0,s1,s2,s3,s4,s5,s6,s7,s8⟩;go_simp;with_reducible rfl
  rotate_left
  ·simp only[Act.put,zL0,zL1,zL2,i64_w,i32_w];rfl
  refine one_ (i:=2) (N:=some 20) #[true,true,true,false,false,true,true,false,false,false] rfl rfl (one_of HT_.out zY1) zY2 (fun K hK=>?_);refine goes_ func60 zY1 rfl #[.int .i64 ah] zY19 rfl rfl zY0 ?_;(with_reducible refine(yav.calls k ah dy _ Le.out).mono ?_);rintro e wZ ⟨rfl,hb⟩;refine⟨_,rfl,?_⟩;replace aM:=zA (zq1 (zK aM.out) hb);replace HB:=zhb hb;clear hb;refine hK.out _ _ ⟨zq0 aM.out 0,zq0 aM.out 1,zq0 aM.out 2,zq0 aM.out 3,zq0 aM.out 4,zq0 aM.out 5,zq0 aM.out 6,zq0 aM.out 7,zq0 aM.out 8⟩ (fun hHeld=>?_);clear hK K;refine norm_ (a':=?_) ?_ ?_;rotate_left
  ·show Act.put _ (some 20) _=_;simp only[Act.put,zL0,zL1,zL2,i64_w,i32_w];rfl
  refine pure_ (i:=3) (N:=some 21) (v:=?_) (a':=?_) #[true,true,true,true,false,true,true,false,false,false] rfl rfl (zq12 HT_.out zY1) (fun _ _ _ h=>h) (Or.inl ⟨by rfl,?_⟩) ?_ ?_;rotate_left
  ·intro w';go_simp;with_reducible rfl
  rotate_left
  ·simp only[Act.put,zL0,zL1,zL2,i64_w,i32_w];rfl
  refine pure_ (i:=4) (N:=some 22) (v:=?_) (a':=?_) #[true,true,true,true,true,true,true,false,false,false] rfl rfl (zq12 HT_.out zY1) (fun _ _ _ h=>h) (Or.inl ⟨by rfl,?_⟩) ?_ ?_;rotate_left
  ·intro w';go_simp;with_reducible rfl
  rotate_left
  ·simp only[Act.put,zL0,zL1,zL2,i64_w,i32_w];rfl
  refine one_ (i:=7) (N:=some 25) #[true,true,true,true,true,true,true,true,false,false] rfl rfl (one_of HT_.out zY1) zY2 (fun K hK=>?_);refine goes_ func62 zY1 rfl #[.agg #[.string aT,.string bi]] zY19 rfl rfl zY0 ?_;(with_reducible refine(ybe.calls aT bi iZ _ ga.out).mono ?_);rintro e kX ⟨rfl,hb⟩;refine⟨_,rfl,?_⟩;replace aM:=zA (zq1 (zK aM.out) hb);replace HB:=zhb hb;clear hb;refine hK.out _ _ ⟨zq0 aM.out 0,zq0 aM.out 1,zq0 aM.out 2,zq0 aM.out 3,zq0 aM.out 4,zq0 aM.out 5,zq0 aM.out 6,zq0 aM.out 7,zq0 aM.out 8⟩ (fun hHeld=>?_);clear hK K;refine norm_ (a':=?_) ?_ ?_;rotate_left
  ·show Act.put _ (some 25) _=_;simp only[Act.put,zL0,zL1,zL2,i64_w,i32_w];rfl
  refine pure_ (i:=8) (N:=some 26) (v:=?_) (a':=?_) #[true,true,true,true,true,true,true,true,true,false] rfl rfl (zq12 HT_.out zY1) (fun _ _ _ h=>h) (Or.inl ⟨by rfl,?_⟩) ?_ ?_;rotate_left
  ·intro w';go_simp;with_reducible rfl
  rotate_left
  ·simp only[Act.put,zL0,zL1,zL2,i64_w,i32_w];rfl
  refine pure_ (i:=9) (N:=some 2) (v:=?_) (a':=?_) #[true,true,true,true,true,true,true,true,true,true] rfl rfl (zq12 HT_.out zY1) (fun _ _ _ h=>h) (Or.inl ⟨by rfl,?_⟩) ?_ ?_;rotate_left
  ·intro w';go_simp;with_reducible rfl
  rotate_left
  ·simp only[Act.put,zL0,zL1,zL2,i64_w,i32_w];rfl
  refine done_ (done_of HT_.out zY1) ?_;go_wp2;go_ret;exact⟨zT,zB⟩
 obtain⟨fL,i8,H⟩:=zM H;obtain⟨⟨c25b0,c25b1,c25b2,BJ⟩,H⟩:=zp H zkLtdlk;obtain⟨⟨c26b0,c26b1,c26b2,c26b3,xi⟩,H⟩:=zp H zkLtdlkk;simp only[ByteArray.size_append',sz1,sz2,sz3,sz4,sz5,sz6,sz7,sz8]at c26b3;have c26b4:=eq_true c26b3;have c26b5:=eq_false (Nat.not_lt.2 c26b3);obtain⟨fM,qk,H⟩:=zM H;obtain⟨⟨c28b0,c28b1,c28b2,c28b3,BK⟩,H⟩:=zp H zkLtdlkk;simp only[ByteArray.size_append',sz1,sz2,sz3,sz4,sz5,sz6,sz7,sz8]at c28b3;have c28b4:=eq_true c28b3;have c28b5:=eq_false (Nat.not_lt.2 c28b3);obtain⟨⟨c29b0,c29b1,c29b2,c29b3,xj⟩,H⟩:=zp H zkLtdlkk;simp only[ByteArray.size_append',sz1,sz2,sz3,sz4,sz5,sz6,sz7,sz8]at c29b3;have c29b4:=eq_true c29b3;have c29b5:=eq_false (Nat.not_lt.2 c29b3);obtain⟨pJ,kz,H⟩:=zM H;obtain⟨⟨c31b0,c31b1,c31b2,c31b3,kA⟩,H⟩:=zp H zkLtdlkk;simp only[ByteArray.size_append',sz1,sz2,sz3,sz4,sz5,sz6,sz7,sz8]at c31b3;have c31b4:=eq_true c31b3;have c31b5:=eq_false (Nat.not_lt.2 c31b3);obtain rfl:=zs H;go_enter func26,ntmps26;try go_wp2_with (first|((with_reducible refine zq6 (N:=1) rfl ?_);refine zEa (N:=1) (cs:=#[.int .i64 ag,.int .i64 ah,.string aT,.string bi,.int .i64 bu,.string bk,.string bm,.slice cv aX.length cw,.slice cx aY.length cy]) (t:=30) ?_;intro dX hg xd aM hb;have F9:=zA (zS hg:w.heap.size≤dX);have Ga:=zA (zS hg:w.heap.size≤dX);replace HB:=zhb hb;clear hb hg;obtain⟨_,_,_,_,_,_,_,_,_⟩:=zc9 aM.out;obtain⟨_,_,_,_,_,_,_,_,_⟩:=zf9 aM.out))
 replace aM:=zA (blk_drew aM.out);replace HB:=zA (zq19 HB.out);refine start_ (n:=15) (S:=fun w'=>w'.cell? ⟨dX,0,none⟩=some (.int .i64 ag)∧w'.cell? ⟨dX,1,none⟩=some (.int .i64 ah)∧w'.cell? ⟨dX,2,none⟩=some (.string aT)∧w'.cell? ⟨dX,3,none⟩=some (.string bi)∧w'.cell? ⟨dX,4,none⟩=some (.int .i64 bu)∧w'.cell? ⟨dX,5,none⟩=some (.string bk)∧w'.cell? ⟨dX,6,none⟩=some (.string bm)∧w'.cell? ⟨dX,7,none⟩=some (.slice cv aX.length cw)∧w'.cell? ⟨dX,8,none⟩=some (.slice cx aY.length cy)) (ds:=[]) #[false,false,false,false,false,false,false,false,false,false,false,false,false,false,false] zY1 rfl rfl ⟨zq0 aM.out 0,zq0 aM.out 1,zq0 aM.out 2,zq0 aM.out 3,zq0 aM.out 4,zq0 aM.out 5,zq0 aM.out 6,zq0 aM.out 7,zq0 aM.out 8⟩ (fun hHeld=>?_);refine with_tabW yal.tab6 yal.bits6 (fun HT_ HW_=>?_);generalize xd.drew=nv at aM HB hHeld ⊢;refine pure_ (i:=0) (N:=some 27) (v:=?_) (a':=?_) #[true,false,false,false,false,false,false,false,false,false,false,false,false,false,false] rfl rfl (zq12 HT_.out zY1) (fun _ _ _ h=>h) (Or.inl ⟨by rfl,?_⟩) ?_ ?_;rotate_left
 ·intro w';go_simp;with_reducible rfl
 rotate_left
 ·simp only[Act.put,zL0,zL1,zL2,i64_w,i32_w];rfl
 refine pure_ (i:=5) (N:=some 32) (v:=?_) (a':=?_) #[true,false,false,false,false,true,false,false,false,false,false,false,false,false,false] rfl rfl (zq12 HT_.out zY1) (fun _ _ _ h=>h) (Or.inl ⟨by rfl,?_⟩) ?_ ?_;rotate_left
 ·intro w';go_simp;with_reducible rfl
 rotate_left
 ·simp only[Act.put,zL0,zL1,zL2,i64_w,i32_w];rfl
 refine pure_ (i:=10) (N:=some 37) (v:=?_) (a':=?_) #[true,false,false,false,false,true,false,false,false,false,true,false,false,false,false] rfl rfl (zq12 HT_.out zY1) (fun _ _ _ h=>h) (Or.inl ⟨by rfl,?_⟩) ?_ ?_;rotate_left
 ·intro w';go_simp;with_reducible rfl
 rotate_left
 ·simp only[Act.put,zL0,zL1,zL2,i64_w,i32_w];rfl
 refine take_ (i:=1) (N:=some 28) (v:=?_) (a':=?_) #[true,true,false,false,false,true,false,false,false,false,true,false,false,false,false] rfl rfl (take_ofW HT_.out HW_.out zY1) (fun _ _ _ h=>h) (Or.inl ⟨by rfl,?_⟩) hHeld ?_ ?_;rotate_left
 ·rintro w' ⟨s0,s1,s2,s3,s4,s5,s6,s7,s8⟩;go_simp;with_reducible rfl
 rotate_left
 ·simp only[Act.put,zL0,zL1,zL2,i64_w,i32_w];rfl
 refine take_ (i:=6) (N:=some 33) (v:=?_) (a':=?_) #[true,true,false,false,false,true,true,false,false,false,true,false,false,false,false] rfl rfl (take_ofW HT_.out HW_.out zY1) (fun _ _ _ h=>h) (Or.inl ⟨by rfl,?_⟩) hHeld ?_ ?_;rotate_left
 ·rintro w' ⟨s0,s1,s2,s3,s4,s5,s6,s7,s8⟩;go_simp;with_reducible rfl
 rotate_left
 ·simp only[Act.put,zL0,zL1,zL2,i64_w,i32_w];rfl
 refine take_ (i:=11) (N:=some 38) (v:=?_) (a':=?_) #[true,true,false,false,false,true,true,false,false,false,true,true,false,false,false] rfl rfl (take_ofW HT_.out HW_.out zY1) (fun _ _ _ h=>h) (Or.inl ⟨by rfl,?_⟩) hHeld ?_ ?_;rotate_left
 ·rintro w' ⟨s0,s1,s2,s3,s4,s5,s6,s7,s8⟩;go_simp;with_reducible rfl
 rotate_left
 ·simp only[Act.put,zL0,zL1,zL2,i64_w,i32_w];rfl
 refine one_ (i:=2) (N:=some 29) #[true,true,true,false,false,true,true,false,false,false,true,true,false,false,false] rfl rfl (one_of HT_.out zY1) zY2 (fun K hK=>?_);refine goes_ func60 zY1 rfl #[.int .i64 ah] zY19 rfl rfl zY0 ?_;with_reducible refine(yav.calls k ah fL _ i8.out).mono ?_
 rintro e ql ⟨rfl,hb⟩;refine⟨_,rfl,?_⟩;replace aM:=zA (zq1 (zK aM.out) hb);replace HB:=zhb hb;clear hb;refine hK.out _ _ ⟨zq0 aM.out 0,zq0 aM.out 1,zq0 aM.out 2,zq0 aM.out 3,zq0 aM.out 4,zq0 aM.out 5,zq0 aM.out 6,zq0 aM.out 7,zq0 aM.out 8⟩ (fun hHeld=>?_);clear hK K;refine norm_ (a':=?_) ?_ ?_;rotate_left
 ·show Act.put _ (some 29) _=_;simp only[Act.put,zL0,zL1,zL2,i64_w,i32_w];rfl
 refine pure_ (i:=3) (N:=some 30) (v:=?_) (a':=?_) #[true,true,true,true,false,true,true,false,false,false,true,true,false,false,false] rfl rfl (zq12 HT_.out zY1) (fun _ _ _ h=>h) (Or.inl ⟨by rfl,?_⟩) ?_ ?_;rotate_left
 ·intro w';go_simp;with_reducible rfl
 rotate_left
 ·simp only[Act.put,zL0,zL1,zL2,i64_w,i32_w];rfl
 refine pure_ (i:=4) (N:=some 31) (v:=?_) (a':=?_) #[true,true,true,true,true,true,true,false,false,false,true,true,false,false,false] rfl rfl (zq12 HT_.out zY1) (fun _ _ _ h=>h) (Or.inl ⟨by rfl,?_⟩) ?_ ?_;rotate_left
 ·intro w';go_simp;with_reducible rfl
 rotate_left
 ·simp only[Act.put,zL0,zL1,zL2,i64_w,i32_w];rfl
 refine one_ (i:=7) (N:=some 34) #[true,true,true,true,true,true,true,true,false,false,true,true,false,false,false] rfl rfl (one_of HT_.out zY1) zY2 (fun K hK=>?_);refine goes_ func62 zY1 rfl #[.agg #[.string aT,.string bi]] zY19 rfl rfl zY0 ?_;with_reducible refine(ybe.calls aT bi fM _ qk.out).mono ?_
 rintro e pX ⟨rfl,hb⟩;refine⟨_,rfl,?_⟩;replace aM:=zA (zq1 (zK aM.out) hb);replace HB:=zhb hb;clear hb;refine hK.out _ _ ⟨zq0 aM.out 0,zq0 aM.out 1,zq0 aM.out 2,zq0 aM.out 3,zq0 aM.out 4,zq0 aM.out 5,zq0 aM.out 6,zq0 aM.out 7,zq0 aM.out 8⟩ (fun hHeld=>?_);clear hK K;refine norm_ (a':=?_) ?_ ?_;rotate_left
 ·show Act.put _ (some 34) _=_;simp only[Act.put,zL0,zL1,zL2,i64_w,i32_w];rfl
 refine pure_ (i:=8) (N:=some 35) (v:=?_) (a':=?_) #[true,true,true,true,true,true,true,true,true,false,true,true,false,false,false] rfl rfl (zq12 HT_.out zY1) (fun _ _ _ h=>h) (Or.inl ⟨by rfl,?_⟩) ?_ ?_;rotate_left
 ·intro w';go_simp;with_reducible rfl
 rotate_left
 ·simp only[Act.put,zL0,zL1,zL2,i64_w,i32_w];rfl
 refine pure_ (i:=9) (N:=some 36) (v:=?_) (a':=?_) #[true,true,true,true,true,true,true,true,true,true,true,true,false,false,false] rfl rfl (zq12 HT_.out zY1) (fun _ _ _ h=>h) (Or.inl ⟨by rfl,?_⟩) ?_ ?_;rotate_left
 ·intro w';go_simp;with_reducible rfl
 rotate_left
 ·simp only[Act.put,zL0,zL1,zL2,i64_w,i32_w];rfl
 refine one_ (i:=12) (N:=some 39) #[true,true,true,true,true,true,true,true,true,true,true,true,true,false,false] rfl rfl (one_of HT_.out zY1) zY2 (fun K hK=>?_);refine goes_ func60 zY1 rfl #[.int .i64 bu] zY19 rfl rfl zY0 ?_;with_reducible refine(yav.calls k bu pJ _ kz.out).mono ?_
 rintro e xk ⟨rfl,hb⟩;refine⟨_,rfl,?_⟩;replace aM:=zA (zq1 (zK aM.out) hb);replace HB:=zhb hb;clear hb;refine hK.out _ _ ⟨zq0 aM.out 0,zq0 aM.out 1,zq0 aM.out 2,zq0 aM.out 3,zq0 aM.out 4,zq0 aM.out 5,zq0 aM.out 6,zq0 aM.out 7,zq0 aM.out 8⟩ (fun hHeld=>?_);clear hK K;refine norm_ (a':=?_) ?_ ?_;rotate_left
 ·show Act.put _ (some 39) _=_;simp only[Act.put,zL0,zL1,zL2,i64_w,i32_w];rfl
 refine pure_ (i:=13) (N:=some 40) (v:=?_) (a':=?_) #[true,true,true,true,true,true,true,true,true,true,true,true,true,true,false] rfl rfl (zq12 HT_.out zY1) (fun _ _ _ h=>h) (Or.inl ⟨by rfl,?_⟩) ?_ ?_;rotate_left
 ·intro w';go_simp;with_reducible rfl
 rotate_left
 ·simp only[Act.put,zL0,zL1,zL2,i64_w,i32_w];rfl
 refine pure_ (i:=14) (N:=some 2) (v:=?_) (a':=?_) #[true,true,true,true,true,true,true,true,true,true,true,true,true,true,true] rfl rfl (zq12 HT_.out zY1) (fun _ _ _ h=>h) (Or.inl ⟨by rfl,?_⟩) ?_ ?_;rotate_left
 ·intro w';go_simp;with_reducible rfl
 rotate_left
 ·simp only[Act.put,zL0,zL1,zL2,i64_w,i32_w];rfl
 refine done_ (done_of HT_.out zY1) ?_;go_wp2;go_ret;exact⟨zT,zB⟩
end Go.Proofs.YtjdpdkdhfnpcgaaGreatDoor.Q
