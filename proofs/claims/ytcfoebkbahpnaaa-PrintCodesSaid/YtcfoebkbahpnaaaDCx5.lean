import Derived.Test.YtcfoebkbahpnaaaDCx0
import Derived.Test.YtcfoebkbahpnaaaDCx4
namespace Go.Proofs.Ytcfoebkbahpnaaa.L
open Go.RowKit Go.Proofs.YtcfoebkbahpnaaaW.PrintWords Go.Proofs.YtcfoebkbahpnaaaW.PrintLast Go.Proofs.YtcfoebkbahpnaaaW.PrintMore
attribute [local go_sem] max2_int min2_int max_two min_two max_three min_three max_four min_four
set_option linter.unusedVariables false
set_option maxHeartbeats 8000000
set_option maxRecDepth 100000
set_option linter.unusedSimpArgs false
mutual
def legationref06_Needs.j0 : Nat → Int → Bool → Int → Int → ByteArray → ByteArray → ByteArray → ByteArray → Int → Option (Int)
  | 0, _, _, _, _, _, _, _, _, _ => none
  | k + 1, x4, x5, x115000, x115001, x115002, x115003, x115004, x115005, x115006 => if x5 = true then (some 0) else (if x4 = 4 then (legationref06_Needs.j1 k x4 (x4 == 4) x115000 x115001 x115002 x115003 x115004 x115005 x115006) else (if x4 = 5 then (legationref06_Needs.j1 k x4 (x4 == 5) x115000 x115001 x115002 x115003 x115004 x115005 x115006) else (if x4 = 18 then (legationref06_Needs.j1 k x4 (x4 == 18) x115000 x115001 x115002 x115003 x115004 x115005 x115006) else (if x4 = 19 then (legationref06_Needs.j1 k x4 (x4 == 19) x115000 x115001 x115002 x115003 x115004 x115005 x115006) else (if x4 = 20 then (legationref06_Needs.j1 k x4 (x4 == 20) x115000 x115001 x115002 x115003 x115004 x115005 x115006) else (if x4 = 21 then (legationref06_Needs.j1 k x4 (x4 == 21) x115000 x115001 x115002 x115003 x115004 x115005 x115006) else (if x4 = 22 then (legationref06_Needs.j1 k x4 (x4 == 22) x115000 x115001 x115002 x115003 x115004 x115005 x115006) else (legationref06_Needs.j1 k x4 (x4 == 23) x115000 x115001 x115002 x115003 x115004 x115005 x115006))))))))
def legationref06_Needs.j1 : Nat → Int → Bool → Int → Int → ByteArray → ByteArray → ByteArray → ByteArray → Int → Option (Int)
  | 0, _, _, _, _, _, _, _, _, _ => none
  | k + 1, x4, x9, x115000, x115001, x115002, x115003, x115004, x115005, x115006 => if x9 = true then (some 1) else (if x4 = 6 then (legationref06_Needs.j2 k x4 (x4 == 6) x115000 x115001 x115002 x115003 x115004 x115005 x115006) else (if x4 = 7 then (legationref06_Needs.j2 k x4 (x4 == 7) x115000 x115001 x115002 x115003 x115004 x115005 x115006) else (if x4 = 8 then (legationref06_Needs.j2 k x4 (x4 == 8) x115000 x115001 x115002 x115003 x115004 x115005 x115006) else (if x4 = 9 then (legationref06_Needs.j2 k x4 (x4 == 9) x115000 x115001 x115002 x115003 x115004 x115005 x115006) else (if x4 = 10 then (legationref06_Needs.j2 k x4 (x4 == 10) x115000 x115001 x115002 x115003 x115004 x115005 x115006) else (if x4 = 11 then (legationref06_Needs.j2 k x4 (x4 == 11) x115000 x115001 x115002 x115003 x115004 x115005 x115006) else (if x4 = 12 then (legationref06_Needs.j2 k x4 (x4 == 12) x115000 x115001 x115002 x115003 x115004 x115005 x115006) else (if x4 = 13 then (legationref06_Needs.j2 k x4 (x4 == 13) x115000 x115001 x115002 x115003 x115004 x115005 x115006) else (if x4 = 14 then (legationref06_Needs.j2 k x4 (x4 == 14) x115000 x115001 x115002 x115003 x115004 x115005 x115006) else (if x4 = 15 then (legationref06_Needs.j2 k x4 (x4 == 15) x115000 x115001 x115002 x115003 x115004 x115005 x115006) else (if x4 = 16 then (legationref06_Needs.j2 k x4 (x4 == 16) x115000 x115001 x115002 x115003 x115004 x115005 x115006) else (if x4 = 17 then (legationref06_Needs.j2 k x4 (x4 == 17) x115000 x115001 x115002 x115003 x115004 x115005 x115006) else (legationref06_Needs.j2 k x4 (x4 == 24) x115000 x115001 x115002 x115003 x115004 x115005 x115006)))))))))))))
def legationref06_Needs.j2 : Nat → Int → Bool → Int → Int → ByteArray → ByteArray → ByteArray → ByteArray → Int → Option (Int)
  | 0, _, _, _, _, _, _, _, _, _ => none
  | k + 1, x4, x18, x115000, x115001, x115002, x115003, x115004, x115005, x115006 => if x18 = true then (some 2) else (if x4 = 25 then (some 3) else (if x4 = 26 then (if x115006 ≥ 1 then (if x115006 ≤ 16 then (some x115006) else (some (-1))) else (some (-1))) else (some (-1))))
end
def legationref06_Needs.f (k : Nat) (a0_0 : Int) (a0_1 : Int) (a0_2 : ByteArray) (a0_3 : ByteArray) (a0_4 : ByteArray) (a0_5 : ByteArray) (a0_6 : Int) : Option (Int) := if a0_0 = 1 then (legationref06_Needs.j0 k a0_0 (a0_0 == 1) a0_0 a0_1 a0_2 a0_3 a0_4 a0_5 a0_6) else (if a0_0 = 2 then (legationref06_Needs.j0 k a0_0 (a0_0 == 2) a0_0 a0_1 a0_2 a0_3 a0_4 a0_5 a0_6) else (legationref06_Needs.j0 k a0_0 (a0_0 == 3) a0_0 a0_1 a0_2 a0_3 a0_4 a0_5 a0_6))
theorem legationref06_Needs.calls (k:Nat) (a0_0:Int) (a0_1:Int) (a0_2:ByteArray) (a0_3:ByteArray) (a0_4:ByteArray) (a0_5:ByteArray) (a0_6:Int) (r:Int) (w:World) (h:legationref06_Needs.f k a0_0 a0_1 a0_2 a0_3 a0_4 a0_5 a0_6=some r):
 Calls Try.prog 93 #[.agg #[.int .i64 a0_0,.int .i64 a0_1,.string a0_2,.string a0_3,.string a0_4,.string a0_5,.int .i64 a0_6]] w fun e w'=>e= .returned (.int .i64 r)∧Below w.heap.size w w':=by
 have HB:=zA (Below.refl w.heap.size w);have H:(if a0_0=1 then(legationref06_Needs.j0 k a0_0 (a0_0==1) a0_0 a0_1 a0_2 a0_3 a0_4 a0_5 a0_6)else(if a0_0=2 then(legationref06_Needs.j0 k a0_0 (a0_0==2) a0_0 a0_1 a0_2 a0_3 a0_4 a0_5 a0_6)else(legationref06_Needs.j0 k a0_0 (a0_0==3) a0_0 a0_1 a0_2 a0_3 a0_4 a0_5 a0_6)))=some r:=h;clear h;have HC2:=zA H;clear H;go_enter Try.func93,Try.ntmps93;go_upto_if 5 with (((with_reducible refine gate_dst (N:=1) rfl ?_);refine zE #[.int .i64 a0_0,.int .i64 a0_1,.string a0_2,.string a0_3,.string a0_4,.string a0_5,.int .i64 a0_6] 112 ?_;intro gb114 hg w3 hbox hb;have BK114:=zA hbox;have GW114:=zZ HB.out hg;replace HB:=zS HB.out hb;clear hb hbox hg;have hcz4_0:=zc7_0 BK114.out))
 go_cut [5] (fun v5 wc=> ∃ (kq:Nat) (x5_1:Bool),v5= .bool x5_1∧Aside0 (legationref06_Needs.j0 kq a0_0 x5_1 a0_0 a0_1 a0_2 a0_3 a0_4 a0_5 a0_6=some r)∧Aside0 (kq≤k)∧Aside0 (wc.heap[gb114]? =some (.cells #[.int .i64 a0_0,.int .i64 a0_1,.string a0_2,.string a0_3,.string a0_4,.string a0_5,.int .i64 a0_6] 112 (0,0)))∧Aside0 (Below w.heap.size w wc));case first=>
  have H:=HC2.out;clear HC2;obtain⟨c5b0,H⟩|⟨c5b0,H⟩:=zb H
  ·(rw[c5b0]);have H':=zA H;clear H;go_wp2;go_meet;case rel=>exact⟨_,((a0_0==1)),(by(simp[*];done)),H',⟨by omega⟩,⟨by exact BK114.out⟩,⟨HB.out⟩⟩
  ·(rw[c5b0]);obtain⟨c6b0,H⟩|⟨c6b0,H⟩:=zb H
   ·have H':=zA H;clear H;go_wp2;go_meet;case rel=>exact⟨_,((a0_0==2)),(by(simp[*];done)),H',⟨by omega⟩,⟨by exact BK114.out⟩,⟨HB.out⟩⟩
   ·have H':=zA H;clear H;go_wp2;go_meet;case rel=>exact⟨_,((a0_0==3)),(by rfl),H',⟨by omega⟩,⟨by exact BK114.out⟩,⟨HB.out⟩⟩
 case rest=>
  clear HC2;(try clear hcz4_0);obtain⟨kq,x5_1,rfl,HA,HJ1,BK114,HB⟩:=hcut;cases kq with
  |zero=>exact absurd HA.out (by simp[legationref06_Needs.j0])
  |succ kj1=>
   have H:=HA.out;clear HA;simp only[legationref06_Needs.j0]at H;by_cases c7:x5_1=true
   ·subst c7;rw[if_pos rfl]at H;obtain rfl:=Option.some.inj H;go_wp2;go_ret;exact⟨by rfl,HB.out⟩
   ·replace c7:=Bool.eq_false_iff.mpr c7;subst c7;rw[if_neg (show ¬(false=true)by decide)]at H;have HC8:=zA H;clear H;go_upto_if 9 with (fail)
    go_cut [9] (fun v9 wc=> ∃ (kq:Nat) (x9_7:Bool),v9= .bool x9_7∧Aside0 (legationref06_Needs.j1 kq a0_0 x9_7 a0_0 a0_1 a0_2 a0_3 a0_4 a0_5 a0_6=some r)∧Aside0 (kq≤kj1)∧Aside0 (wc.heap[gb114]? =some (.cells #[.int .i64 a0_0,.int .i64 a0_1,.string a0_2,.string a0_3,.string a0_4,.string a0_5,.int .i64 a0_6] 112 (0,0)))∧Aside0 (Below w.heap.size w wc));case first=>
     have H:=HC8.out;clear HC8;obtain⟨c9b0,H⟩|⟨c9b0,H⟩:=zb H
     ·(rw[c9b0]);have H':=zA H;clear H;go_wp2;go_meet;case rel=>exact⟨_,((a0_0==4)),(by(simp[*];done)),H',⟨by have:=HJ1.out;omega⟩,⟨by exact BK114.out⟩,⟨HB.out⟩⟩
     ·(rw[c9b0]);obtain⟨c10b0,H⟩|⟨c10b0,H⟩:=zb H
      ·have H':=zA H;clear H;go_wp2;go_meet;case rel=>exact⟨_,((a0_0==5)),(by(simp[*];done)),H',⟨by have:=HJ1.out;omega⟩,⟨by exact BK114.out⟩,⟨HB.out⟩⟩
      ·obtain⟨c11b0,H⟩|⟨c11b0,H⟩:=zb H
       ·have H':=zA H;clear H;go_wp2;go_meet;case rel=>exact⟨_,((a0_0==18)),(by(simp[*];done)),H',⟨by have:=HJ1.out;omega⟩,⟨by exact BK114.out⟩,⟨HB.out⟩⟩
       ·obtain⟨c12b0,H⟩|⟨c12b0,H⟩:=zb H
        ·have H':=zA H;clear H;go_wp2;go_meet;case rel=>exact⟨_,((a0_0==19)),(by(simp[*];done)),H',⟨by have:=HJ1.out;omega⟩,⟨by exact BK114.out⟩,⟨HB.out⟩⟩
        ·obtain⟨c13b0,H⟩|⟨c13b0,H⟩:=zb H
         ·have H':=zA H;clear H;go_wp2;go_meet;case rel=>exact⟨_,((a0_0==20)),(by(simp[*];done)),H',⟨by have:=HJ1.out;omega⟩,⟨by exact BK114.out⟩,⟨HB.out⟩⟩
         ·obtain⟨c14b0,H⟩|⟨c14b0,H⟩:=zb H
          ·have H':=zA H;clear H;go_wp2;go_meet;case rel=>exact⟨_,((a0_0==21)),(by(simp[*];done)),H',⟨by have:=HJ1.out;omega⟩,⟨by exact BK114.out⟩,⟨HB.out⟩⟩
          ·obtain⟨c15b0,H⟩|⟨c15b0,H⟩:=zb H
           ·have H':=zA H;clear H;go_wp2;go_meet;case rel=>exact⟨_,((a0_0==22)),(by(simp[*];done)),H',⟨by have:=HJ1.out;omega⟩,⟨by exact BK114.out⟩,⟨HB.out⟩⟩
           ·have H':=zA H;clear H;go_wp2;go_meet;case rel=>exact⟨_,((a0_0==23)),(by rfl),H',⟨by have:=HJ1.out;omega⟩,⟨by exact BK114.out⟩,⟨HB.out⟩⟩
    case rest=>
     clear HC8;obtain⟨kq,x9_7,rfl,HA,HJ7,BK114,HB⟩:=hcut;cases kq with
     |zero=>exact absurd HA.out (by simp[legationref06_Needs.j1])
     |succ kj7=>
      have H:=HA.out;clear HA;simp only[legationref06_Needs.j1]at H;by_cases c16:x9_7=true
      ·subst c16;rw[if_pos rfl]at H;obtain rfl:=Option.some.inj H;go_wp2;go_ret;exact⟨by rfl,HB.out⟩
      ·replace c16:=Bool.eq_false_iff.mpr c16;subst c16;rw[if_neg (show ¬(false=true)by decide)]at H;have HC17:=zA H;clear H;go_upto_if 18 with (fail)
       go_cut [18] (fun v18 wc=> ∃ (kq:Nat) (x18_16:Bool),v18= .bool x18_16∧Aside0 (legationref06_Needs.j2 kq a0_0 x18_16 a0_0 a0_1 a0_2 a0_3 a0_4 a0_5 a0_6=some r)∧Aside0 (kq≤kj7)∧Aside0 (wc.heap[gb114]? =some (.cells #[.int .i64 a0_0,.int .i64 a0_1,.string a0_2,.string a0_3,.string a0_4,.string a0_5,.int .i64 a0_6] 112 (0,0)))∧Aside0 (Below w.heap.size w wc));case first=>
        have H:=HC17.out;clear HC17;obtain⟨c18b0,H⟩|⟨c18b0,H⟩:=zb H
        ·(rw[c18b0]);have H':=zA H;clear H;go_wp2;go_meet;case rel=>exact⟨_,((a0_0==6)),(by(simp[*];done)),H',⟨by have:=HJ1.out;have:=HJ7.out;omega⟩,⟨by exact BK114.out⟩,⟨HB.out⟩⟩
        ·(rw[c18b0]);obtain⟨c19b0,H⟩|⟨c19b0,H⟩:=zb H
         ·have H':=zA H;clear H;go_wp2;go_meet;case rel=>exact⟨_,((a0_0==7)),(by(simp[*];done)),H',⟨by have:=HJ1.out;have:=HJ7.out;omega⟩,⟨by exact BK114.out⟩,⟨HB.out⟩⟩
         ·obtain⟨c20b0,H⟩|⟨c20b0,H⟩:=zb H
          ·have H':=zA H;clear H;go_wp2;go_meet;case rel=>exact⟨_,((a0_0==8)),(by(simp[*];done)),H',⟨by have:=HJ1.out;have:=HJ7.out;omega⟩,⟨by exact BK114.out⟩,⟨HB.out⟩⟩
          ·obtain⟨c21b0,H⟩|⟨c21b0,H⟩:=zb H
           ·have H':=zA H;clear H;go_wp2;go_meet;case rel=>exact⟨_,((a0_0==9)),(by(simp[*];done)),H',⟨by have:=HJ1.out;have:=HJ7.out;omega⟩,⟨by exact BK114.out⟩,⟨HB.out⟩⟩
           ·obtain⟨c22b0,H⟩|⟨c22b0,H⟩:=zb H
            ·have H':=zA H;clear H;go_wp2;go_meet;case rel=>exact⟨_,((a0_0==10)),(by(simp[*];done)),H',⟨by have:=HJ1.out;have:=HJ7.out;omega⟩,⟨by exact BK114.out⟩,⟨HB.out⟩⟩
            ·obtain⟨c23b0,H⟩|⟨c23b0,H⟩:=zb H
             ·have H':=zA H;clear H;go_wp2;go_meet;case rel=>exact⟨_,((a0_0==11)),(by(simp[*];done)),H',⟨by have:=HJ1.out;have:=HJ7.out;omega⟩,⟨by exact BK114.out⟩,⟨HB.out⟩⟩
             ·obtain⟨c24b0,H⟩|⟨c24b0,H⟩:=zb H
              ·have H':=zA H;clear H;go_wp2;go_meet;case rel=>exact⟨_,((a0_0==12)),(by(simp[*];done)),H',⟨by have:=HJ1.out;have:=HJ7.out;omega⟩,⟨by exact BK114.out⟩,⟨HB.out⟩⟩
              ·obtain⟨c25b0,H⟩|⟨c25b0,H⟩:=zb H
               ·have H':=zA H;clear H;go_wp2;go_meet;case rel=>exact⟨_,((a0_0==13)),(by(simp[*];done)),H',⟨by have:=HJ1.out;have:=HJ7.out;omega⟩,⟨by exact BK114.out⟩,⟨HB.out⟩⟩
               ·obtain⟨c26b0,H⟩|⟨c26b0,H⟩:=zb H
                ·have H':=zA H;clear H;go_wp2;go_meet;case rel=>exact⟨_,((a0_0==14)),(by(simp[*];done)),H',⟨by have:=HJ1.out;have:=HJ7.out;omega⟩,⟨by exact BK114.out⟩,⟨HB.out⟩⟩
                ·obtain⟨c27b0,H⟩|⟨c27b0,H⟩:=zb H
                 ·have H':=zA H;clear H;go_wp2;go_meet;case rel=>exact⟨_,((a0_0==15)),(by(simp[*];done)),H',⟨by have:=HJ1.out;have:=HJ7.out;omega⟩,⟨by exact BK114.out⟩,⟨HB.out⟩⟩
                 ·obtain⟨c28b0,H⟩|⟨c28b0,H⟩:=zb H
                  ·have H':=zA H;clear H;go_wp2;go_meet;case rel=>exact⟨_,((a0_0==16)),(by(simp[*];done)),H',⟨by have:=HJ1.out;have:=HJ7.out;omega⟩,⟨by exact BK114.out⟩,⟨HB.out⟩⟩
                  ·obtain⟨c29b0,H⟩|⟨c29b0,H⟩:=zb H
                   ·have H':=zA H;clear H;go_wp2;go_meet;case rel=>exact⟨_,((a0_0==17)),(by(simp[*];done)),H',⟨by have:=HJ1.out;have:=HJ7.out;omega⟩,⟨by exact BK114.out⟩,⟨HB.out⟩⟩
                   ·have H':=zA H;clear H;go_wp2;go_meet;case rel=>exact⟨_,((a0_0==24)),(by rfl),H',⟨by have:=HJ1.out;have:=HJ7.out;omega⟩,⟨by exact BK114.out⟩,⟨HB.out⟩⟩
       case rest=>
        clear HC17;obtain⟨kq,x18_16,rfl,HA,HJ16,BK114,HB⟩:=hcut;cases kq with
        |zero=>exact absurd HA.out (by simp[legationref06_Needs.j2])
        |succ kj16=>
         have H:=HA.out;clear HA;simp only[legationref06_Needs.j2]at H;by_cases c30:x18_16=true
         ·subst c30;rw[if_pos rfl]at H;obtain rfl:=Option.some.inj H;go_wp2;go_ret;exact⟨by rfl,HB.out⟩
         ·replace c30:=Bool.eq_false_iff.mpr c30;subst c30;rw[if_neg (show ¬(false=true)by decide)]at H;obtain⟨c31b0,H⟩|⟨c31b0,H⟩:=zb H
          ·obtain rfl:=Option.some.inj H;go_wp2;go_ret;exact⟨by rfl,HB.out⟩
          ·obtain⟨c32b0,H⟩|⟨c32b0,H⟩:=zb H
           ·by_cases c33:a0_6≥1
            ·rw[if_pos c33]at H;have c33b0:decide (1≤a0_6)=true:=decide_eq_true c33;clear c33;obtain⟨c34b0,H⟩|⟨c34b0,H⟩:=zj H
             ·obtain rfl:=Option.some.inj H;have hcz35_6:=zc7_6 BK114.out;go_wp2;go_ret;exact⟨by rfl,HB.out⟩
             ·obtain rfl:=Option.some.inj H;have hcz36_6:=zc7_6 BK114.out;go_wp2;go_ret;exact⟨by rfl,HB.out⟩
            ·rw[if_neg c33]at H;have c33b0:decide (1≤a0_6)=false:=decide_eq_false c33;clear c33;obtain rfl:=Option.some.inj H;have hcz37_6:=zc7_6 BK114.out;go_wp2;go_ret;exact⟨by rfl,HB.out⟩
           ·obtain rfl:=Option.some.inj H;go_wp2;go_ret;exact⟨by rfl,HB.out⟩
def legationref01_IsLang.f (k : Nat) (a0 : ByteArray) : Option (Bool) := if (a0.size : Int) ≥ 1 then (if (a0.size : Int) ≤ 8 then ((legationref01_All.f k a0 4).bind fun t115 => (some t115)) else (some false)) else (some false)
theorem legationref01_IsLang.calls (k:Nat) (a0:ByteArray) (r:Bool) (w:World) (h:legationref01_IsLang.f k a0=some r):
 Calls Try.prog 116 #[.string a0] w fun e w'=>e= .returned (.bool r)∧Drawn0 w w':=by
 have H:(if(a0.size:Int)≥1 then(if(a0.size:Int)≤8 then((legationref01_All.f k a0 4).bind fun t115=>(some t115))else(some false))else(some false))=some r:=h;clear h;by_cases c2:(a0.size:Int)≥1
 ·rw[if_pos c2]at H;have c2b0:decide (1≤(a0.size:Int))=true:=decide_eq_true c2;clear c2;obtain⟨c3b0,H⟩|⟨c3b0,H⟩:=zj H
  ·obtain⟨t115,A4,H⟩:=zk H;obtain rfl:=Option.some.inj H;go_enter Try.func116,Try.ntmps116;go_wp2_with ((go_at_call 42;(with_reducible refine(legationref01_All.calls k a0 4 t115 _ A4.out).mono ?_);rintro e w' ⟨rfl,⟨nd,rfl⟩⟩));go_ret;exact⟨by rfl,by repeat(first|exact Drawn0.refl _|apply Drawn0.step)⟩
  ·obtain rfl:=Option.some.inj H;go_enter Try.func116,Try.ntmps116;go_wp2;go_ret;exact⟨by rfl,by repeat(exact Drawn0.refl _)⟩
 ·rw[if_neg c2]at H;have c2b0:decide (1≤(a0.size:Int))=false:=decide_eq_false c2;clear c2;obtain rfl:=Option.some.inj H;go_enter Try.func116,Try.ntmps116;go_wp2;go_ret;exact⟨by rfl,by repeat(exact Drawn0.refl _)⟩
end Go.Proofs.Ytcfoebkbahpnaaa.L
