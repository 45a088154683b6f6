/- Of a text of ours what this claim needs. -/
import Derived.Test.YtjdpdkdhfnpcgaaGreatDoorZzFnExactNotePutWQ0
import Derived.Test.YtjdpdkdhfnpcgaaGreatDoorZzFnExactNotePutWQ8
namespace Go.Proofs.YtjdpdkdhfnpcgaaGreatDoor.Q
open Go.RowKit Go.Proofs.YtjdpdkdhfnpcgaaGreatDoorW.PrintWords Go.Proofs.YtjdpdkdhfnpcgaaGreatDoorW.PrintLast Go.Proofs.YtjdpdkdhfnpcgaaGreatDoorW.PrintMore
attribute [local go_sem] max2_int min2_int max_two min_two max_three min_three max_four min_four
set_option linter.unusedVariables false
set_option linter.unusedSimpArgs false
def spec_l2Dots.l0:Nat→List ByteArray→ByteArray→Int→Option (ByteArray)
  | 0,_,_,_=>none
  | k+1,x0,x3,x4=>if x4 < (x0.length:Int) then (if 0≤x4 then (if (rdOf ByteArray.empty x0 x4).toList=([]:List UInt8) then (if x3.size+(rdOf ByteArray.empty x0 x4).size≤9223372036854775807 then (if (x3++(rdOf ByteArray.empty x0 x4)).size+2≤9223372036854775807 then (spec_l2Dots.l0 k x0 ((x3++(rdOf ByteArray.empty x0 x4))++(⟨#[13,10]⟩:ByteArray)) (wrap64 (x4+1))) else (none)) else (none)) else (if 0 < ((rdOf ByteArray.empty x0 x4).size:Int) then (if (bt (rdOf ByteArray.empty x0 x4) 0)=46 then (if 1+(rdOf ByteArray.empty x0 x4).size≤9223372036854775807 then (if x3.size+((⟨#[46]⟩:ByteArray)++(rdOf ByteArray.empty x0 x4)).size≤9223372036854775807 then (if (x3++((⟨#[46]⟩:ByteArray)++(rdOf ByteArray.empty x0 x4))).size+2≤9223372036854775807 then (spec_l2Dots.l0 k x0 ((x3++((⟨#[46]⟩:ByteArray)++(rdOf ByteArray.empty x0 x4)))++(⟨#[13,10]⟩:ByteArray)) (wrap64 (x4+1))) else (none)) else (none)) else (none)) else (if x3.size+(rdOf ByteArray.empty x0 x4).size≤9223372036854775807 then (if (x3++(rdOf ByteArray.empty x0 x4)).size+2≤9223372036854775807 then (spec_l2Dots.l0 k x0 ((x3++(rdOf ByteArray.empty x0 x4))++(⟨#[13,10]⟩:ByteArray)) (wrap64 (x4+1))) else (none)) else (none))) else (none))) else (none)) else (if x3.size+3≤9223372036854775807 then (some (x3++(⟨#[46,13,10]⟩:ByteArray))) else (none))
def spec_l2Dots.f (k:Nat) (l0:List ByteArray):Option (ByteArray):=spec_l2Dots.l0 k l0 (⟨#[]⟩:ByteArray) 0
set_option maxHeartbeats 8000000 in
set_option maxRecDepth 100000 in
theorem spec_l2Dots.calls (k:Nat) (A0:Option Addr) (c0:Nat) (l0:List ByteArray) (r:ByteArray) (w:World) (hr0:Kd.C Kd.string w A0 l0.length l0) (hc0:l0.length≤c0) (h:spec_l2Dots.f k l0=some r) :
    Calls Tryz.prog 110 #[.slice A0 l0.length c0] w fun e w'=>e=.returned (.string r)∧Drawn0 w w':=by
  have HR0:=Aside0.mk hr0
  have HC0:=Aside0.mk hc0
  clear hr0 hc0
  have H:(spec_l2Dots.l0 k l0 (⟨#[]⟩:ByteArray) 0)=some r:=h
  clear h
  have H':=Aside0.mk H
  clear H
  go_enter Tryz.func110,Tryz.ntmps110
  go_wp2
  go_loopg [3,4] k (fun kq v3 v4 w'=>∃ (x3_1:ByteArray) (x4_1:Int),v3=.string x3_1∧v4=.int .i64 x4_1∧Aside0 (spec_l2Dots.l0 kq l0 x3_1 x4_1=some r)∧Aside0 (kq≤k)∧Drawn0 w w')
  case atStart=>exact ⟨((⟨#[]⟩:ByteArray)),(0),(by first|rfl|(simp;done)|(simp [*];done)),(by first|rfl|(simp;done)|(simp [*];done)),H',⟨Nat.le_refl _⟩,by repeat (first|exact Drawn0.refl _|apply Drawn0.step)⟩
  case round =>
    clear H'
    try clear c1
    obtain ⟨x3_1,x4_1,rfl,rfl,HA,HK1,⟨m1,rfl⟩⟩:=hrel
    cases gk with
    | zero=>exact absurd HA.out (by simp [spec_l2Dots.l0])
    | succ k1 =>
      have H:=HA.out
      clear HA
      simp only [spec_l2Dots.l0] at H
      by_cases c2:x4_1 < (l0.length:Int)
      · rw [if_pos c2] at H
        have c2b0:decide (x4_1 < (l0.length:Int))=true:=decide_eq_true c2
        clear c2
        by_cases c3:0≤x4_1
        · rw [if_pos c3] at H
          have c3b0:decide (0≤x4_1)=true:=decide_eq_true c3
          clear c3
          by_cases c4:(rdOf ByteArray.empty l0 x4_1).toList=([]:List UInt8)
          · rw [if_pos c4] at H
            have c4b0:((rdOf ByteArray.empty l0 x4_1).toList==([]:List UInt8))=true:=beq_iff_eq.mpr c4
            have c4b1:((rdOf ByteArray.empty l0 x4_1).toList != ([]:List UInt8))=false:=bne_eq_false_iff_eq.mpr c4
            clear c4
            by_cases c5:x3_1.size+(rdOf ByteArray.empty l0 x4_1).size≤9223372036854775807
            · rw [if_pos c5] at H
              have c5b0:=eq_true c5
              have c5b1:decide (x3_1.size+(rdOf ByteArray.empty l0 x4_1).size≤9223372036854775807)=true:=decide_eq_true c5
              try have c5b2:(9223372036854775807 < x3_1.size+(rdOf ByteArray.empty l0 x4_1).size)=False:=eq_false (Nat.not_lt.2 c5)
              by_cases c6:(x3_1++(rdOf ByteArray.empty l0 x4_1)).size+2≤9223372036854775807
              · rw [if_pos c6] at H
                have c6b0:=eq_true c6
                have c6b1:decide ((x3_1++(rdOf ByteArray.empty l0 x4_1)).size+2≤9223372036854775807)=true:=decide_eq_true c6
                try have c6b2:(9223372036854775807 < (x3_1++(rdOf ByteArray.empty l0 x4_1)).size+2)=False:=eq_false (Nat.not_lt.2 c6)
                try have c6b3:=c6
                try simp only [ByteArray.size_append',sz1,sz2,sz3,sz4,sz5,sz6,sz7,sz8] at c6b3
                try have c6b4:=eq_true c6b3
                try have c6b5:=eq_false (Nat.not_lt.2 c6b3)
                have H':=Aside0.mk H
                clear H
                have p101:0≤(x4_1:Int):=of_decide_eq_true (by first|(with_reducible assumption)|assumption)
                have q101:x4_1 < (l0.length:Int):=of_decide_eq_true (by first|(with_reducible assumption)|assumption)
                obtain ⟨ad101,e101,hx101_0⟩:=Kd.at_string HR0.out x4_1 p101 q101
                cases e101
                replace p101:=eq_true p101
                replace q101:=eq_true q101
                go_wp2
                go_roundg k1
                case measure=>have:=HK1.out;omega
                case rel=>exact ⟨((x3_1++(rdOf ByteArray.empty l0 x4_1))++(⟨#[13,10]⟩:ByteArray)),(wrap64 (x4_1+1)),(by first|rfl|(simp;done)|(simp [*];done)),(by first|rfl|(simp;done)|(simp [*];done)),H',⟨by have:=HK1.out;omega⟩,by repeat (first|exact Drawn0.refl _|apply Drawn0.step)⟩
              · rw [if_neg c6] at H
                exact absurd H (by simp)
            · rw [if_neg c5] at H
              exact absurd H (by simp)
          · rw [if_neg c4] at H
            have c4b0:((rdOf ByteArray.empty l0 x4_1).toList==([]:List UInt8))=false:=beq_eq_false_iff_ne.mpr c4
            have c4b1:((rdOf ByteArray.empty l0 x4_1).toList != ([]:List UInt8))=true:=bne_iff_ne.mpr c4
            by_cases c7:0 < ((rdOf ByteArray.empty l0 x4_1).size:Int)
            · rw [if_pos c7] at H
              have c7b0:decide (0 < ((rdOf ByteArray.empty l0 x4_1).size:Int))=true:=decide_eq_true c7
              have c7b1:decide (0 < (rdOf ByteArray.empty l0 x4_1).size)=true:=decide_eq_true (by omega)
              clear c7
              by_cases c9:(bt (rdOf ByteArray.empty l0 x4_1) 0)=46
              · rw [if_pos c9] at H
                have c9b0:((bt (rdOf ByteArray.empty l0 x4_1) 0)==46)=true:=beq_iff_eq.mpr c9
                have c9b1:((bt (rdOf ByteArray.empty l0 x4_1) 0) != 46)=false:=bne_eq_false_iff_eq.mpr c9
                clear c9
                by_cases c10:1+(rdOf ByteArray.empty l0 x4_1).size≤9223372036854775807
                · rw [if_pos c10] at H
                  have c10b0:=eq_true c10
                  have c10b1:decide (1+(rdOf ByteArray.empty l0 x4_1).size≤9223372036854775807)=true:=decide_eq_true c10
                  try have c10b2:(9223372036854775807 < 1+(rdOf ByteArray.empty l0 x4_1).size)=False:=eq_false (Nat.not_lt.2 c10)
                  by_cases c11:x3_1.size+((⟨#[46]⟩:ByteArray)++(rdOf ByteArray.empty l0 x4_1)).size≤9223372036854775807
                  · rw [if_pos c11] at H
                    have c11b0:=eq_true c11
                    have c11b1:decide (x3_1.size+((⟨#[46]⟩:ByteArray)++(rdOf ByteArray.empty l0 x4_1)).size≤9223372036854775807)=true:=decide_eq_true c11
                    try have c11b2:(9223372036854775807 < x3_1.size+((⟨#[46]⟩:ByteArray)++(rdOf ByteArray.empty l0 x4_1)).size)=False:=eq_false (Nat.not_lt.2 c11)
                    try have c11b3:=c11
                    try simp only [ByteArray.size_append',sz1,sz2,sz3,sz4,sz5,sz6,sz7,sz8] at c11b3
                    try have c11b4:=eq_true c11b3
                    try have c11b5:=eq_false (Nat.not_lt.2 c11b3)
                    by_cases c12:(x3_1++((⟨#[46]⟩:ByteArray)++(rdOf ByteArray.empty l0 x4_1))).size+2≤9223372036854775807
                    · rw [if_pos c12] at H
                      have c12b0:=eq_true c12
                      have c12b1:decide ((x3_1++((⟨#[46]⟩:ByteArray)++(rdOf ByteArray.empty l0 x4_1))).size+2≤9223372036854775807)=true:=decide_eq_true c12
                      try have c12b2:(9223372036854775807 < (x3_1++((⟨#[46]⟩:ByteArray)++(rdOf ByteArray.empty l0 x4_1))).size+2)=False:=eq_false (Nat.not_lt.2 c12)
                      try have c12b3:=c12
                      try simp only [ByteArray.size_append',sz1,sz2,sz3,sz4,sz5,sz6,sz7,sz8] at c12b3
                      try have c12b4:=eq_true c12b3
                      try have c12b5:=eq_false (Nat.not_lt.2 c12b3)
                      have H':=Aside0.mk H
                      clear H
                      have p101:0≤(x4_1:Int):=of_decide_eq_true (by first|(with_reducible assumption)|assumption)
                      have q101:x4_1 < (l0.length:Int):=of_decide_eq_true (by first|(with_reducible assumption)|assumption)
                      obtain ⟨ad101,e101,hx101_0⟩:=Kd.at_string HR0.out x4_1 p101 q101
                      cases e101
                      replace p101:=eq_true p101
                      replace q101:=eq_true q101
                      have p8:0≤(0:Int):=(by omega)
                      have q8:0 < (rdOf ByteArray.empty l0 x4_1).size:=(by have:(0:Int) < ((rdOf ByteArray.empty l0 x4_1).size:Int):=of_decide_eq_true (by first|(with_reducible assumption)|assumption);omega)
                      have hx8:∀ h:0 < (rdOf ByteArray.empty l0 x4_1).size,(((rdOf ByteArray.empty l0 x4_1)[0]'h).toNat:Int)=bt (rdOf ByteArray.empty l0 x4_1) 0:=bt_at (rdOf ByteArray.empty l0 x4_1) 0
                      clear p8
                      have qi8:(0 < ((rdOf ByteArray.empty l0 x4_1).size:Int))=True:=eq_true (of_decide_eq_true (by first|(with_reducible assumption)|assumption))
                      replace q8:=eq_true q8
                      go_wp2
                      go_roundg k1
                      case measure=>have:=HK1.out;omega
                      case rel=>exact ⟨((x3_1++((⟨#[46]⟩:ByteArray)++(rdOf ByteArray.empty l0 x4_1)))++(⟨#[13,10]⟩:ByteArray)),(wrap64 (x4_1+1)),(by first|rfl|(simp;done)|(simp [*];done)),(by first|rfl|(simp;done)|(simp [*];done)),H',⟨by have:=HK1.out;omega⟩,by repeat (first|exact Drawn0.refl _|apply Drawn0.step)⟩
                    · rw [if_neg c12] at H
                      exact absurd H (by simp)
                  · rw [if_neg c11] at H
                    exact absurd H (by simp)
                · rw [if_neg c10] at H
                  exact absurd H (by simp)
              · rw [if_neg c9] at H
                have c9b0:((bt (rdOf ByteArray.empty l0 x4_1) 0)==46)=false:=beq_eq_false_iff_ne.mpr c9
                have c9b1:((bt (rdOf ByteArray.empty l0 x4_1) 0) != 46)=true:=bne_iff_ne.mpr c9
                by_cases c13:x3_1.size+(rdOf ByteArray.empty l0 x4_1).size≤9223372036854775807
                · rw [if_pos c13] at H
                  have c13b0:=eq_true c13
                  have c13b1:decide (x3_1.size+(rdOf ByteArray.empty l0 x4_1).size≤9223372036854775807)=true:=decide_eq_true c13
                  try have c13b2:(9223372036854775807 < x3_1.size+(rdOf ByteArray.empty l0 x4_1).size)=False:=eq_false (Nat.not_lt.2 c13)
                  by_cases c14:(x3_1++(rdOf ByteArray.empty l0 x4_1)).size+2≤9223372036854775807
                  · rw [if_pos c14] at H
                    have c14b0:=eq_true c14
                    have c14b1:decide ((x3_1++(rdOf ByteArray.empty l0 x4_1)).size+2≤9223372036854775807)=true:=decide_eq_true c14
                    try have c14b2:(9223372036854775807 < (x3_1++(rdOf ByteArray.empty l0 x4_1)).size+2)=False:=eq_false (Nat.not_lt.2 c14)
                    try have c14b3:=c14
                    try simp only [ByteArray.size_append',sz1,sz2,sz3,sz4,sz5,sz6,sz7,sz8] at c14b3
                    try have c14b4:=eq_true c14b3
                    try have c14b5:=eq_false (Nat.not_lt.2 c14b3)
                    have H':=Aside0.mk H
                    clear H
                    have p101:0≤(x4_1:Int):=of_decide_eq_true (by first|(with_reducible assumption)|assumption)
                    have q101:x4_1 < (l0.length:Int):=of_decide_eq_true (by first|(with_reducible assumption)|assumption)
                    obtain ⟨ad101,e101,hx101_0⟩:=Kd.at_string HR0.out x4_1 p101 q101
                    cases e101
                    replace p101:=eq_true p101
                    replace q101:=eq_true q101
                    have p8:0≤(0:Int):=(by omega)
                    have q8:0 < (rdOf ByteArray.empty l0 x4_1).size:=(by have:(0:Int) < ((rdOf ByteArray.empty l0 x4_1).size:Int):=of_decide_eq_true (by first|(with_reducible assumption)|assumption);omega)
                    have hx8:∀ h:0 < (rdOf ByteArray.empty l0 x4_1).size,(((rdOf ByteArray.empty l0 x4_1)[0]'h).toNat:Int)=bt (rdOf ByteArray.empty l0 x4_1) 0:=bt_at (rdOf ByteArray.empty l0 x4_1) 0
                    clear p8
                    have qi8:(0 < ((rdOf ByteArray.empty l0 x4_1).size:Int))=True:=eq_true (of_decide_eq_true (by first|(with_reducible assumption)|assumption))
                    replace q8:=eq_true q8
                    go_wp2
                    go_roundg k1
                    case measure=>have:=HK1.out;omega
                    case rel=>exact ⟨((x3_1++(rdOf ByteArray.empty l0 x4_1))++(⟨#[13,10]⟩:ByteArray)),(wrap64 (x4_1+1)),(by first|rfl|(simp;done)|(simp [*];done)),(by first|rfl|(simp;done)|(simp [*];done)),H',⟨by have:=HK1.out;omega⟩,by repeat (first|exact Drawn0.refl _|apply Drawn0.step)⟩
                  · rw [if_neg c14] at H
                    exact absurd H (by simp)
                · rw [if_neg c13] at H
                  exact absurd H (by simp)
            · rw [if_neg c7] at H
              exact absurd H (by simp)
        · rw [if_neg c3] at H
          exact absurd H (by simp)
      · rw [if_neg c2] at H
        have c2b0:decide (x4_1 < (l0.length:Int))=false:=decide_eq_false c2
        clear c2
        by_cases c15:x3_1.size+3≤9223372036854775807
        · rw [if_pos c15] at H
          have c15b0:=eq_true c15
          have c15b1:decide (x3_1.size+3≤9223372036854775807)=true:=decide_eq_true c15
          try have c15b2:(9223372036854775807 < x3_1.size+3)=False:=eq_false (Nat.not_lt.2 c15)
          obtain rfl:=Option.some.inj H
          go_wp2
          go_ret
          exact ⟨by first|rfl|(simp;done)|(simp [*];done),by repeat (first|exact Drawn0.refl _|apply Drawn0.step)⟩
        · rw [if_neg c15] at H
          exact absurd H (by simp)
def spec_l2Put.l0:Nat→ByteArray→Int→ByteArray→ByteArray→List (S24)→List ByteArray→Option (ByteArray)
  | 0,_,_,_,_,_,_=>none
  | k+1,x3,x4,x103000,x103001,x103002,x103003=>if x4 < (x103002.length:Int) then (if x3.size+3≤9223372036854775807 then (if 0≤x4 then ((spec_l1Put.f ((rd_T24 x103002 x4).f0) ((rd_T24 x103002 x4).f1)).bind fun t105=>(if (x3++(⟨#[116,111,32]⟩:ByteArray)).size+t105.size≤9223372036854775807 then (if ((x3++(⟨#[116,111,32]⟩:ByteArray))++t105).size+2≤9223372036854775807 then (spec_l2Put.l0 k (((x3++(⟨#[116,111,32]⟩:ByteArray))++t105)++(⟨#[13,10]⟩:ByteArray)) (wrap64 (x4+1)) x103000 x103001 x103002 x103003) else (none)) else (none))) else (none)) else (none)) else (if x3.size+2≤9223372036854775807 then ((spec_l2Dots.f k x103003).bind fun t106=>(if (x3++(⟨#[13,10]⟩:ByteArray)).size+t106.size≤9223372036854775807 then (some ((x3++(⟨#[13,10]⟩:ByteArray))++t106)) else (none))) else (none))
def spec_l2Put.f (k:Nat) (a0_0:ByteArray) (a0_1:ByteArray) (l0_2:List (S24)) (l0_3:List ByteArray):Option (ByteArray):=(spec_l1Put.f a0_0 a0_1).bind fun t103=>(if 5+t103.size≤9223372036854775807 then (if ((⟨#[102,114,111,109,32]⟩:ByteArray)++t103).size+2≤9223372036854775807 then (spec_l2Put.l0 k (((⟨#[102,114,111,109,32]⟩:ByteArray)++t103)++(⟨#[13,10]⟩:ByteArray)) 0 a0_0 a0_1 l0_2 l0_3) else (none)) else (none))
set_option maxHeartbeats 8000000 in
set_option maxRecDepth 100000 in
theorem spec_l2Put.calls (k:Nat) (a0_0:ByteArray) (a0_1:ByteArray) (A0_2:Option Addr) (c0_2:Nat) (l0_2:List (S24)) (A0_3:Option Addr) (c0_3:Nat) (l0_3:List ByteArray) (r:ByteArray) (w:World) (hr0_2:Kd.C k24 w A0_2 l0_2.length l0_2) (hc0_2:l0_2.length≤c0_2) (hr0_3:Kd.C Kd.string w A0_3 l0_3.length l0_3) (hc0_3:l0_3.length≤c0_3) (h:spec_l2Put.f k a0_0 a0_1 l0_2 l0_3=some r) :
    Calls Tryz.prog 61 #[.agg #[.string a0_0,.string a0_1,.slice A0_2 l0_2.length c0_2,.slice A0_3 l0_3.length c0_3]] w fun e w'=>e=.returned (.string r)∧Below w.heap.size w w':=by
  have hu28:=Tryz.underlying28
  have hu24:=Tryz.underlying24
  have HR0_2:=Aside0.mk hr0_2
  have HC0_2:=Aside0.mk hc0_2
  clear hr0_2 hc0_2
  have HR0_3:=Aside0.mk hr0_3
  have HC0_3:=Aside0.mk hc0_3
  clear hr0_3 hc0_3
  have HB:=Aside0.mk (Below.refl w.heap.size w)
  have H:((spec_l1Put.f a0_0 a0_1).bind fun t103=>(if 5+t103.size≤9223372036854775807 then (if ((⟨#[102,114,111,109,32]⟩:ByteArray)++t103).size+2≤9223372036854775807 then (spec_l2Put.l0 k (((⟨#[102,114,111,109,32]⟩:ByteArray)++t103)++(⟨#[13,10]⟩:ByteArray)) 0 a0_0 a0_1 l0_2 l0_3) else (none)) else (none)))=some r:=h
  clear h
  replace H:=Option.bind_eq_some_iff.mp H
  obtain ⟨t103,A20,H⟩:=H
  replace H:(if 5+t103.size≤9223372036854775807 then (if ((⟨#[102,114,111,109,32]⟩:ByteArray)++t103).size+2≤9223372036854775807 then (spec_l2Put.l0 k (((⟨#[102,114,111,109,32]⟩:ByteArray)++t103)++(⟨#[13,10]⟩:ByteArray)) 0 a0_0 a0_1 l0_2 l0_3) else (none)) else (none))=some r:=H
  have A2:=Aside0.mk A20
  clear A20
  by_cases c3:5+t103.size≤9223372036854775807
  · rw [if_pos c3] at H
    have c3b0:=eq_true c3
    have c3b1:decide (5+t103.size≤9223372036854775807)=true:=decide_eq_true c3
    try have c3b2:(9223372036854775807 < 5+t103.size)=False:=eq_false (Nat.not_lt.2 c3)
    by_cases c4:((⟨#[102,114,111,109,32]⟩:ByteArray)++t103).size+2≤9223372036854775807
    · rw [if_pos c4] at H
      have c4b0:=eq_true c4
      have c4b1:decide (((⟨#[102,114,111,109,32]⟩:ByteArray)++t103).size+2≤9223372036854775807)=true:=decide_eq_true c4
      try have c4b2:(9223372036854775807 < ((⟨#[102,114,111,109,32]⟩:ByteArray)++t103).size+2)=False:=eq_false (Nat.not_lt.2 c4)
      try have c4b3:=c4
      try simp only [ByteArray.size_append',sz1,sz2,sz3,sz4,sz5,sz6,sz7,sz8] at c4b3
      try have c4b4:=eq_true c4b3
      try have c4b5:=eq_false (Nat.not_lt.2 c4b3)
      have H':=Aside0.mk H
      clear H
      go_enter Tryz.func61,Tryz.ntmps61
      go_wp2_with (first|((with_reducible refine gate_dst (N:=1) rfl ?_);refine box_event ?hg (N:=1) ?hd (cs:=#[.string a0_0,.string a0_1,.slice A0_2 l0_2.length c0_2,.slice A0_3 l0_3.length c0_3]) (t:=28) ?hr ?_;(case hd=>rfl);(case hg=>rfl);(case hr=>first|(go_simp;done)|(go_simp;rfl));intro gb102 hg w5 hbox hb;have n0_:=Aside0.mk (below_step (by repeat (first|(with_reducible first|exact HB.out|apply below_alloc|apply pw_below_drewN|apply below_drew1)|exact HB.out)) hb);have n1_:=Aside0.mk (hbox);have n2_:=Aside0.mk ((by rw [hg];exact (below_size (by repeat (first|(with_reducible first|exact HB.out|apply below_alloc|apply pw_below_drewN|apply below_drew1)|exact HB.out))):w.heap.size≤gb102));have n3_:=Aside0.mk ((by rw [hg];exact (below_size (by repeat (first|(with_reducible first|exact HB.out|apply below_alloc|apply pw_below_drewN|apply below_drew1)|exact HB.out))):w.heap.size≤gb102));clear HB;have HB:=n0_;have BK102:=n1_;have GW102:=n2_;have GE102:=n3_;clear n0_ n1_ n2_ n3_;clear hb hbox hg;have hcz6_0:w5.cell? ⟨gb102,0,none⟩=some (.string a0_0):=(blk_cell BK102.out 0).trans rfl;have hcz6_1:w5.cell? ⟨gb102,1,none⟩=some (.string a0_1):=(blk_cell BK102.out 1).trans rfl;have hcz6_2:w5.cell? ⟨gb102,2,none⟩=some (.slice A0_2 l0_2.length c0_2):=(blk_cell BK102.out 2).trans rfl;have hcz6_3:w5.cell? ⟨gb102,3,none⟩=some (.slice A0_3 l0_3.length c0_3):=(blk_cell BK102.out 3).trans rfl;have hfz6_0:=blk_frozen BK102.out 0;have hfz6_1:=blk_frozen BK102.out 1;have hfz6_2:=blk_frozen BK102.out 2;have hfz6_3:=blk_frozen BK102.out 3)|((with_reducible refine gate_callee (f:=62) rfl ?_);refine goesL_ (some 7) rfl rfl Tryz.func62 (by kernel_rfl) rfl #[.agg #[.string a0_0,.string a0_1]] rfl (by (try simp only [List.map_toArray,List.map_cons,List.map_nil]);first|done|rfl|(simp only [List.length_drop,List.length_take];rfl)) ?_;(with_reducible refine (spec_l1Put.calls a0_0 a0_1 t103 _ A2.out).mono ?_);rintro e w7 ⟨rfl,hb⟩;refine ⟨_,rfl,?_⟩;have n0_:=Aside0.mk (blk_below (g:=gb102) (o:=.cells #[.string a0_0,.string a0_1,.slice A0_2 l0_2.length c0_2,.slice A0_3 l0_3.length c0_3] 28 (0,0)) (by (with_reducible repeat (first|refine blk_drewN ?_ _|refine blk_drew ?_|refine blk_alloc ?_ _));exact BK102.out) hb);have n1_:=Aside0.mk (below_step (by repeat (first|(with_reducible first|exact HB.out|apply below_alloc|apply pw_below_drewN|apply below_drew1|refine below_set ?_ GE102.out)|exact HB.out)) hb);clear BK102;clear HB;have BK102:=n0_;have HB:=n1_;clear n0_ n1_;(try clear hb);(try clear hb2);(try clear hk);(try clear hi)))
      go_loopg [3,4] k (fun kq v3 v4 w'=>∃ (x3_1:ByteArray) (x4_1:Int),v3=.string x3_1∧v4=.int .i64 x4_1∧Aside0 (spec_l2Put.l0 kq x3_1 x4_1 a0_0 a0_1 l0_2 l0_3=some r)∧Aside0 (kq≤k)∧Aside0 (w'.heap[gb102]?=some (.cells #[.string a0_0,.string a0_1,(.slice A0_2 l0_2.length c0_2),(.slice A0_3 l0_3.length c0_3)] 28 (0,0)))∧Aside0 (Below w.heap.size w w'))
      case atStart=>exact ⟨(((⟨#[102,114,111,109,32]⟩:ByteArray)++t103)++(⟨#[13,10]⟩:ByteArray)),(0),(by first|rfl|(simp;done)|(simp [*];done)),(by first|rfl|(simp;done)|(simp [*];done)),H',⟨Nat.le_refl _⟩,⟨by (with_reducible repeat (first|refine blk_drewN ?_ _|refine blk_drew ?_|refine blk_alloc ?_ _));exact BK102.out⟩,⟨by repeat (first|(with_reducible first|exact HB.out|apply below_alloc|apply pw_below_drewN|apply below_drew1|refine below_set ?_ GE102.out)|exact HB.out)⟩⟩
      case round =>
        clear H'
        try clear p2
        try clear c3
        try clear c3b0
        try clear c3b1
        try clear c3b2
        try clear c4
        try clear c4b0
        try clear c4b1
        try clear c4b2
        try clear c6
        try clear hcz6_0
        try clear hcz6_1
        try clear hcz6_2
        try clear hcz6_3
        try clear hfz6_0
        try clear hfz6_1
        try clear hfz6_2
        try clear hfz6_3
        obtain ⟨x3_1,x4_1,rfl,rfl,HA,HK1,BK102,HB⟩:=hrel
        cases gk with
        | zero=>exact absurd HA.out (by simp [spec_l2Put.l0])
        | succ k1 =>
          have H:=HA.out
          clear HA
          simp only [spec_l2Put.l0] at H
          by_cases c8:x4_1 < (l0_2.length:Int)
          · rw [if_pos c8] at H
            have c8b0:decide (x4_1 < (l0_2.length:Int))=true:=decide_eq_true c8
            clear c8
            by_cases c9:x3_1.size+3≤9223372036854775807
            · rw [if_pos c9] at H
              have c9b0:=eq_true c9
              have c9b1:decide (x3_1.size+3≤9223372036854775807)=true:=decide_eq_true c9
              try have c9b2:(9223372036854775807 < x3_1.size+3)=False:=eq_false (Nat.not_lt.2 c9)
              by_cases c10:0≤x4_1
              · rw [if_pos c10] at H
                have c10b0:decide (0≤x4_1)=true:=decide_eq_true c10
                clear c10
                replace H:=Option.bind_eq_some_iff.mp H
                obtain ⟨t105,A110,H⟩:=H
                replace H:(if (x3_1++(⟨#[116,111,32]⟩:ByteArray)).size+t105.size≤9223372036854775807 then (if ((x3_1++(⟨#[116,111,32]⟩:ByteArray))++t105).size+2≤9223372036854775807 then (spec_l2Put.l0 k1 (((x3_1++(⟨#[116,111,32]⟩:ByteArray))++t105)++(⟨#[13,10]⟩:ByteArray)) (wrap64 (x4_1+1)) a0_0 a0_1 l0_2 l0_3) else (none)) else (none))=some r:=H
                have A11:=Aside0.mk A110
                clear A110
                by_cases c12:(x3_1++(⟨#[116,111,32]⟩:ByteArray)).size+t105.size≤9223372036854775807
                · rw [if_pos c12] at H
                  have c12b0:=eq_true c12
                  have c12b1:decide ((x3_1++(⟨#[116,111,32]⟩:ByteArray)).size+t105.size≤9223372036854775807)=true:=decide_eq_true c12
                  try have c12b2:(9223372036854775807 < (x3_1++(⟨#[116,111,32]⟩:ByteArray)).size+t105.size)=False:=eq_false (Nat.not_lt.2 c12)
                  try have c12b3:=c12
                  try simp only [ByteArray.size_append',sz1,sz2,sz3,sz4,sz5,sz6,sz7,sz8] at c12b3
                  try have c12b4:=eq_true c12b3
                  try have c12b5:=eq_false (Nat.not_lt.2 c12b3)
                  by_cases c13:((x3_1++(⟨#[116,111,32]⟩:ByteArray))++t105).size+2≤9223372036854775807
                  · rw [if_pos c13] at H
                    have c13b0:=eq_true c13
                    have c13b1:decide (((x3_1++(⟨#[116,111,32]⟩:ByteArray))++t105).size+2≤9223372036854775807)=true:=decide_eq_true c13
                    try have c13b2:(9223372036854775807 < ((x3_1++(⟨#[116,111,32]⟩:ByteArray))++t105).size+2)=False:=eq_false (Nat.not_lt.2 c13)
                    try have c13b3:=c13
                    try simp only [ByteArray.size_append',sz1,sz2,sz3,sz4,sz5,sz6,sz7,sz8] at c13b3
                    try have c13b4:=eq_true c13b3
                    try have c13b5:=eq_false (Nat.not_lt.2 c13b3)
                    have H':=Aside0.mk H
                    clear H
                    have hcz14_0:wr.cell? ⟨gb102,0,none⟩=some (.string a0_0):=(blk_cell BK102.out 0).trans rfl
                    have hcz14_1:wr.cell? ⟨gb102,1,none⟩=some (.string a0_1):=(blk_cell BK102.out 1).trans rfl
                    have hcz14_2:wr.cell? ⟨gb102,2,none⟩=some (.slice A0_2 l0_2.length c0_2):=(blk_cell BK102.out 2).trans rfl
                    have hcz14_3:wr.cell? ⟨gb102,3,none⟩=some (.slice A0_3 l0_3.length c0_3):=(blk_cell BK102.out 3).trans rfl
                    have hfz14_0:=blk_frozen BK102.out 0
                    have hfz14_1:=blk_frozen BK102.out 1
                    have hfz14_2:=blk_frozen BK102.out 2
                    have hfz14_3:=blk_frozen BK102.out 3
                    have p104:0≤(x4_1:Int):=of_decide_eq_true (by first|(with_reducible assumption)|assumption)
                    have q104:x4_1 < (l0_2.length:Int):=of_decide_eq_true (by first|(with_reducible assumption)|assumption)
                    obtain ⟨ad104,e104,hx104_0,hx104_1⟩:=at_T24 HR0_2.out x4_1 p104 q104
                    cases e104
                    replace hx104_0:=(HB.out.cell (World.block_lt_of_cell? w _ hx104_0)).trans hx104_0
                    replace hx104_1:=(HB.out.cell (World.block_lt_of_cell? w _ hx104_1)).trans hx104_1
                    replace p104:=eq_true p104
                    replace q104:=eq_true q104
                    go_wp2_with (first|((with_reducible refine gate_callee (f:=62) rfl ?_);refine goesL_ (some 24) rfl rfl Tryz.func62 (by kernel_rfl) rfl #[.agg #[.string ((rd_T24 l0_2 x4_1).f0),.string ((rd_T24 l0_2 x4_1).f1)]] rfl (by (try simp only [List.map_toArray,List.map_cons,List.map_nil]);first|done|rfl|(simp only [List.length_drop,List.length_take];rfl)) ?_;(with_reducible refine (spec_l1Put.calls ((rd_T24 l0_2 x4_1).f0) ((rd_T24 l0_2 x4_1).f1) t105 _ A11.out).mono ?_);rintro e w15 ⟨rfl,hb⟩;refine ⟨_,rfl,?_⟩;have n0_:=Aside0.mk (blk_below (g:=gb102) (o:=.cells #[.string a0_0,.string a0_1,.slice (some ad104) l0_2.length c0_2,.slice A0_3 l0_3.length c0_3] 28 (0,0)) (by (with_reducible repeat (first|refine blk_drewN ?_ _|refine blk_drew ?_|refine blk_alloc ?_ _));exact BK102.out) hb);have n1_:=Aside0.mk (below_step (by repeat (first|(with_reducible first|exact HB.out|apply below_alloc|apply pw_below_drewN|apply below_drew1|refine below_set ?_ GE102.out)|exact HB.out)) hb);clear BK102;clear HB;have BK102:=n0_;have HB:=n1_;clear n0_ n1_;(try clear hb);(try clear hb2);(try clear hk);(try clear hi)))
                    go_roundg k1
                    case measure=>have:=HK1.out;omega
                    case rel=>exact ⟨(((x3_1++(⟨#[116,111,32]⟩:ByteArray))++t105)++(⟨#[13,10]⟩:ByteArray)),(wrap64 (x4_1+1)),(by first|rfl|(simp;done)|(simp [*];done)),(by first|rfl|(simp;done)|(simp [*];done)),H',⟨by have:=HK1.out;omega⟩,⟨by (with_reducible repeat (first|refine blk_drewN ?_ _|refine blk_drew ?_|refine blk_alloc ?_ _));exact BK102.out⟩,⟨by repeat (first|(with_reducible first|exact HB.out|apply below_alloc|apply pw_below_drewN|apply below_drew1|refine below_set ?_ GE102.out)|exact HB.out)⟩⟩
                  · rw [if_neg c13] at H
                    exact absurd H (by simp)
                · rw [if_neg c12] at H
                  exact absurd H (by simp)
              · rw [if_neg c10] at H
                exact absurd H (by simp)
            · rw [if_neg c9] at H
              exact absurd H (by simp)
          · rw [if_neg c8] at H
            have c8b0:decide (x4_1 < (l0_2.length:Int))=false:=decide_eq_false c8
            clear c8
            by_cases c16:x3_1.size+2≤9223372036854775807
            · rw [if_pos c16] at H
              have c16b0:=eq_true c16
              have c16b1:decide (x3_1.size+2≤9223372036854775807)=true:=decide_eq_true c16
              try have c16b2:(9223372036854775807 < x3_1.size+2)=False:=eq_false (Nat.not_lt.2 c16)
              replace H:=Option.bind_eq_some_iff.mp H
              obtain ⟨t106,A170,H⟩:=H
              replace H:(if (x3_1++(⟨#[13,10]⟩:ByteArray)).size+t106.size≤9223372036854775807 then (some ((x3_1++(⟨#[13,10]⟩:ByteArray))++t106)) else (none))=some r:=H
              have A17:=Aside0.mk A170
              clear A170
              by_cases c18:(x3_1++(⟨#[13,10]⟩:ByteArray)).size+t106.size≤9223372036854775807
              · rw [if_pos c18] at H
                have c18b0:=eq_true c18
                have c18b1:decide ((x3_1++(⟨#[13,10]⟩:ByteArray)).size+t106.size≤9223372036854775807)=true:=decide_eq_true c18
                try have c18b2:(9223372036854775807 < (x3_1++(⟨#[13,10]⟩:ByteArray)).size+t106.size)=False:=eq_false (Nat.not_lt.2 c18)
                try have c18b3:=c18
                try simp only [ByteArray.size_append',sz1,sz2,sz3,sz4,sz5,sz6,sz7,sz8] at c18b3
                try have c18b4:=eq_true c18b3
                try have c18b5:=eq_false (Nat.not_lt.2 c18b3)
                obtain rfl:=Option.some.inj H
                have hcz19_0:wr.cell? ⟨gb102,0,none⟩=some (.string a0_0):=(blk_cell BK102.out 0).trans rfl
                have hcz19_1:wr.cell? ⟨gb102,1,none⟩=some (.string a0_1):=(blk_cell BK102.out 1).trans rfl
                have hcz19_2:wr.cell? ⟨gb102,2,none⟩=some (.slice A0_2 l0_2.length c0_2):=(blk_cell BK102.out 2).trans rfl
                have hcz19_3:wr.cell? ⟨gb102,3,none⟩=some (.slice A0_3 l0_3.length c0_3):=(blk_cell BK102.out 3).trans rfl
                have hfz19_0:=blk_frozen BK102.out 0
                have hfz19_1:=blk_frozen BK102.out 1
                have hfz19_2:=blk_frozen BK102.out 2
                have hfz19_3:=blk_frozen BK102.out 3
                go_wp2_with (first|((with_reducible refine gate_callee (f:=110) rfl ?_);refine goesL_ (some 31) rfl rfl Tryz.func110 (by kernel_rfl) rfl #[.slice A0_3 l0_3.length c0_3] rfl (by (try simp only [List.map_toArray,List.map_cons,List.map_nil]);first|done|rfl|(simp only [List.length_drop,List.length_take];rfl)) ?_;(with_reducible refine (spec_l2Dots.calls k1 _ _ l0_3 t106 _ ?side1 ?side2 A17.out).mono ?_);(case side1=>repeat (first|exact (Kd.C_below HR0_3.out HB.out)|(with_reducible refine Kd.C_alloc ?_ _)|(with_reducible refine Kd.C_drewN ?_ _)|(with_reducible refine Kd.C_drew ?_)));(case side2=>exact HC0_3.out);rintro e w' ⟨rfl,⟨nd,rfl⟩⟩;refine ⟨_,rfl,?_⟩))
                go_ret
                exact ⟨by first|rfl|(simp [errW_none,errW_some]<;>rfl)|(simp [*,errW_none,errW_some]<;>rfl),by repeat (first|(with_reducible first|exact HB.out|apply below_alloc|apply pw_below_drewN|apply below_drew1|refine below_set ?_ GE102.out)|exact HB.out)⟩
              · rw [if_neg c18] at H
                exact absurd H (by simp)
            · rw [if_neg c16] at H
              exact absurd H (by simp)
    · rw [if_neg c4] at H
      exact absurd H (by simp)
  · rw [if_neg c3] at H
    exact absurd H (by simp)
end Go.Proofs.YtjdpdkdhfnpcgaaGreatDoor.Q
