import Derived.Test.YtcfoebkbahpnaaaDCx0
import Derived.Test.YtcfoebkbahpnaaaDCx8
namespace Go.Proofs.Ytcfoebkbahpnaaa.L
open Go.RowKit Go.Proofs.YtcfoebkbahpnaaaW.PrintWords Go.Proofs.YtcfoebkbahpnaaaW.PrintLast Go.Proofs.YtcfoebkbahpnaaaW.PrintMore
attribute [local go_sem] max2_int min2_int max_two min_two max_three min_three max_four min_four
set_option linter.unusedVariables false
set_option maxHeartbeats 8000000
set_option maxRecDepth 100000
set_option linter.unusedSimpArgs false
mutual
def formula_Needs.j0 : Nat → Bool → Int → Int → ByteArray → ByteArray → ByteArray → ByteArray → Int → Option (Int)
  | 0, _, _, _, _, _, _, _, _ => none
  | k + 1, x3, x294000, x294001, x294002, x294003, x294004, x294005, x294006 => if x3 = true then (some 0) else (if x294000 = 4 then (formula_Needs.j1 k true x294000 x294001 x294002 x294003 x294004 x294005 x294006) else (if x294000 = 5 then (formula_Needs.j1 k true x294000 x294001 x294002 x294003 x294004 x294005 x294006) else (if x294000 ≥ 18 then (formula_Needs.j1 k (decide (x294000 ≤ 23)) x294000 x294001 x294002 x294003 x294004 x294005 x294006) else (formula_Needs.j1 k false x294000 x294001 x294002 x294003 x294004 x294005 x294006))))
def formula_Needs.j1 : Nat → Bool → Int → Int → ByteArray → ByteArray → ByteArray → ByteArray → Int → Option (Int)
  | 0, _, _, _, _, _, _, _, _ => none
  | k + 1, x12, x294000, x294001, x294002, x294003, x294004, x294005, x294006 => if x12 = true then (some 1) else (if x294000 ≥ 6 then (if x294000 ≤ 17 then (formula_Needs.j2 k true x294000 x294001 x294002 x294003 x294004 x294005 x294006) else (formula_Needs.j2 k (x294000 == 24) x294000 x294001 x294002 x294003 x294004 x294005 x294006)) else (formula_Needs.j2 k (x294000 == 24) x294000 x294001 x294002 x294003 x294004 x294005 x294006))
def formula_Needs.j2 : Nat → Bool → Int → Int → ByteArray → ByteArray → ByteArray → ByteArray → Int → Option (Int)
  | 0, _, _, _, _, _, _, _, _ => none
  | k + 1, x31, x294000, x294001, x294002, x294003, x294004, x294005, x294006 => if x31 = true then (some 2) else (if x294000 = 25 then (some 3) else (if x294000 = 26 then (if x294006 ≥ 1 then (if x294006 ≤ 16 then (some x294006) else (some (-1))) else (some (-1))) else (some (-1))))
end
def formula_Needs.f (k : Nat) (a0_0 : Int) (a0_1 : Int) (a0_2 : ByteArray) (a0_3 : ByteArray) (a0_4 : ByteArray) (a0_5 : ByteArray) (a0_6 : Int) : Option (Int) := if a0_0 ≥ 1 then (formula_Needs.j0 k (decide (a0_0 ≤ 3)) a0_0 a0_1 a0_2 a0_3 a0_4 a0_5 a0_6) else (formula_Needs.j0 k false a0_0 a0_1 a0_2 a0_3 a0_4 a0_5 a0_6)
theorem formula_Needs.calls (k:Nat) (a0_0:Int) (a0_1:Int) (a0_2:ByteArray) (a0_3:ByteArray) (a0_4:ByteArray) (a0_5:ByteArray) (a0_6:Int) (r:Int) (w:World) (h:formula_Needs.f k a0_0 a0_1 a0_2 a0_3 a0_4 a0_5 a0_6=some r):
 Calls Try.prog 97 #[.agg #[.int .i64 a0_0,.int .i64 a0_1,.string a0_2,.string a0_3,.string a0_4,.string a0_5,.int .i64 a0_6]] w fun e w'=>e= .returned (.int .i64 r)∧Below w.heap.size w w':=by
 have HB:=zA (Below.refl w.heap.size w);have H:(if a0_0≥1 then(formula_Needs.j0 k (decide (a0_0≤3)) a0_0 a0_1 a0_2 a0_3 a0_4 a0_5 a0_6)else(formula_Needs.j0 k false a0_0 a0_1 a0_2 a0_3 a0_4 a0_5 a0_6))=some r:=h;clear h;have HC2:=zA H;clear H;go_enter Try.func97,Try.ntmps97;go_upto_region 1 with (((with_reducible refine gate_dst (N:=1) rfl ?_);refine zE #[.int .i64 a0_0,.int .i64 a0_1,.string a0_2,.string a0_3,.string a0_4,.string a0_5,.int .i64 a0_6] 112 ?_;intro gb293 hg w3 hbox hb;have BK293:=zA hbox;have GW293:=zZ HB.out hg;replace HB:=zS HB.out hb;clear hb hbox hg))
 go_cut [3] (fun v3 wc=> ∃ (kq:Nat) (x3_1:Bool),v3= .bool x3_1∧Aside0 (formula_Needs.j0 kq x3_1 a0_0 a0_1 a0_2 a0_3 a0_4 a0_5 a0_6=some r)∧Aside0 (kq≤k)∧Aside0 (wc.heap[gb293]? =some (.cells #[.int .i64 a0_0,.int .i64 a0_1,.string a0_2,.string a0_3,.string a0_4,.string a0_5,.int .i64 a0_6] 112 (0,0)))∧Aside0 (Below w.heap.size w wc));case first=>
  have H:=HC2.out;clear HC2;by_cases c4:a0_0≥1
  ·rw[if_pos c4]at H;have c4b0:decide (1≤a0_0)=true:=decide_eq_true c4;clear c4;have H':=zA H;clear H;have hcz5_0:=zc7_0 BK293.out;go_wp2;go_meet;case rel=>exact⟨_,(decide (a0_0≤3)),(by rfl),H',⟨by omega⟩,⟨by exact BK293.out⟩,⟨HB.out⟩⟩
  ·rw[if_neg c4]at H;have c4b0:decide (1≤a0_0)=false:=decide_eq_false c4;clear c4;have H':=zA H;clear H;have hcz6_0:=zc7_0 BK293.out;go_wp2;go_meet;case rel=>exact⟨_,(false),(by rfl),H',⟨by omega⟩,⟨by exact BK293.out⟩,⟨HB.out⟩⟩
 case rest=>
  clear HC2;obtain⟨kq,x3_1,rfl,HA,HJ1,BK293,HB⟩:=hcut;cases kq with
  |zero=>exact absurd HA.out (by simp[formula_Needs.j0])
  |succ kj1=>
   have H:=HA.out;clear HA;simp only[formula_Needs.j0]at H;by_cases c7:x3_1=true
   ·subst c7;rw[if_pos rfl]at H;obtain rfl:=Option.some.inj H;go_wp2;go_ret;exact⟨by rfl,HB.out⟩
   ·replace c7:=Bool.eq_false_iff.mpr c7;subst c7;rw[if_neg (show ¬(false=true)by decide)]at H;have HC8:=zA H;clear H;go_upto_region 3 with (fail)
    go_cut [12] (fun v12 wc=> ∃ (kq:Nat) (x12_7:Bool),v12= .bool x12_7∧Aside0 (formula_Needs.j1 kq x12_7 a0_0 a0_1 a0_2 a0_3 a0_4 a0_5 a0_6=some r)∧Aside0 (kq≤kj1)∧Aside0 (wc.heap[gb293]? =some (.cells #[.int .i64 a0_0,.int .i64 a0_1,.string a0_2,.string a0_3,.string a0_4,.string a0_5,.int .i64 a0_6] 112 (0,0)))∧Aside0 (Below w.heap.size w wc));case first=>
     have H:=HC8.out;clear HC8;obtain⟨c9b0,H⟩|⟨c9b0,H⟩:=zb H
     ·have H':=zA H;clear H;have hcz10_0:=zc7_0 BK293.out;go_wp2;go_meet;case rel=>exact⟨_,(true),(by rfl),H',⟨by have:=HJ1.out;omega⟩,⟨by exact BK293.out⟩,⟨HB.out⟩⟩
     ·obtain⟨c11b0,H⟩|⟨c11b0,H⟩:=zb H
      ·have H':=zA H;clear H;have hcz12_0:=zc7_0 BK293.out;go_wp2;go_meet;case rel=>exact⟨_,(true),(by rfl),H',⟨by have:=HJ1.out;omega⟩,⟨by exact BK293.out⟩,⟨HB.out⟩⟩
      ·by_cases c13:a0_0≥18
       ·rw[if_pos c13]at H;have c13b0:decide (18≤a0_0)=true:=decide_eq_true c13;clear c13;have H':=zA H;clear H;have hcz14_0:=zc7_0 BK293.out;go_wp2;go_meet;case rel=>exact⟨_,(decide (a0_0≤23)),(by rfl),H',⟨by have:=HJ1.out;omega⟩,⟨by exact BK293.out⟩,⟨HB.out⟩⟩
       ·rw[if_neg c13]at H;have c13b0:decide (18≤a0_0)=false:=decide_eq_false c13;clear c13;have H':=zA H;clear H;have hcz15_0:=zc7_0 BK293.out;go_wp2;go_meet;case rel=>exact⟨_,(false),(by rfl),H',⟨by have:=HJ1.out;omega⟩,⟨by exact BK293.out⟩,⟨HB.out⟩⟩
    case rest=>
     clear HC8;obtain⟨kq,x12_7,rfl,HA,HJ7,BK293,HB⟩:=hcut;cases kq with
     |zero=>exact absurd HA.out (by simp[formula_Needs.j1])
     |succ kj7=>
      have H:=HA.out;clear HA;simp only[formula_Needs.j1]at H;by_cases c16:x12_7=true
      ·subst c16;rw[if_pos rfl]at H;obtain rfl:=Option.some.inj H;go_wp2;go_ret;exact⟨by rfl,HB.out⟩
      ·replace c16:=Bool.eq_false_iff.mpr c16;subst c16;rw[if_neg (show ¬(false=true)by decide)]at H;have HC17:=zA H;clear H;go_upto_region 5 with (fail)
       go_cut [31] (fun v31 wc=> ∃ (kq:Nat) (x31_16:Bool),v31= .bool x31_16∧Aside0 (formula_Needs.j2 kq x31_16 a0_0 a0_1 a0_2 a0_3 a0_4 a0_5 a0_6=some r)∧Aside0 (kq≤kj7)∧Aside0 (wc.heap[gb293]? =some (.cells #[.int .i64 a0_0,.int .i64 a0_1,.string a0_2,.string a0_3,.string a0_4,.string a0_5,.int .i64 a0_6] 112 (0,0)))∧Aside0 (Below w.heap.size w wc));case first=>
        have H:=HC17.out;clear HC17;by_cases c18:a0_0≥6
        ·rw[if_pos c18]at H;have c18b0:decide (6≤a0_0)=true:=decide_eq_true c18;clear c18;obtain⟨c19b0,H⟩|⟨c19b0,H⟩:=zj H
         ·have H':=zA H;clear H;have hcz20_0:=zc7_0 BK293.out;go_wp2;go_meet;case rel=>exact⟨_,(true),(by rfl),H',⟨by have:=HJ1.out;have:=HJ7.out;omega⟩,⟨by exact BK293.out⟩,⟨HB.out⟩⟩
         ·have H':=zA H;clear H;have hcz21_0:=zc7_0 BK293.out;go_wp2;go_meet;case rel=>exact⟨_,((a0_0==24)),(by rfl),H',⟨by have:=HJ1.out;have:=HJ7.out;omega⟩,⟨by exact BK293.out⟩,⟨HB.out⟩⟩
        ·rw[if_neg c18]at H;have c18b0:decide (6≤a0_0)=false:=decide_eq_false c18;clear c18;have H':=zA H;clear H;have hcz22_0:=zc7_0 BK293.out;go_wp2;go_meet;case rel=>exact⟨_,((a0_0==24)),(by rfl),H',⟨by have:=HJ1.out;have:=HJ7.out;omega⟩,⟨by exact BK293.out⟩,⟨HB.out⟩⟩
       case rest=>
        clear HC17;obtain⟨kq,x31_16,rfl,HA,HJ16,BK293,HB⟩:=hcut;cases kq with
        |zero=>exact absurd HA.out (by simp[formula_Needs.j2])
        |succ kj16=>
         have H:=HA.out;clear HA;simp only[formula_Needs.j2]at H;by_cases c23:x31_16=true
         ·subst c23;rw[if_pos rfl]at H;obtain rfl:=Option.some.inj H;go_wp2;go_ret;exact⟨by rfl,HB.out⟩
         ·replace c23:=Bool.eq_false_iff.mpr c23;subst c23;rw[if_neg (show ¬(false=true)by decide)]at H;obtain⟨c24b0,H⟩|⟨c24b0,H⟩:=zb H
          ·obtain rfl:=Option.some.inj H;have hcz25_0:=zc7_0 BK293.out;go_wp2;go_ret;exact⟨by rfl,HB.out⟩
          ·obtain⟨c26b0,H⟩|⟨c26b0,H⟩:=zb H
           ·by_cases c27:a0_6≥1
            ·rw[if_pos c27]at H;have c27b0:decide (1≤a0_6)=true:=decide_eq_true c27;clear c27;obtain⟨c28b0,H⟩|⟨c28b0,H⟩:=zj H
             ·obtain rfl:=Option.some.inj H;have hcz29_0:=zc7_0 BK293.out;have hcz29_6:=zc7_6 BK293.out;go_wp2;go_ret;exact⟨by rfl,HB.out⟩
             ·obtain rfl:=Option.some.inj H;have hcz30_0:=zc7_0 BK293.out;have hcz30_6:=zc7_6 BK293.out;go_wp2;go_ret;exact⟨by rfl,HB.out⟩
            ·rw[if_neg c27]at H;have c27b0:decide (1≤a0_6)=false:=decide_eq_false c27;clear c27;obtain rfl:=Option.some.inj H;have hcz31_0:=zc7_0 BK293.out;have hcz31_6:=zc7_6 BK293.out;go_wp2;go_ret;exact⟨by rfl,HB.out⟩
           ·obtain rfl:=Option.some.inj H;have hcz32_0:=zc7_0 BK293.out;go_wp2;go_ret;exact⟨by rfl,HB.out⟩
end Go.Proofs.Ytcfoebkbahpnaaa.L

namespace Go.Proofs.Ytcfoebkbahpnaaa.L
open Go.RowKit Go.Proofs.YtcfoebkbahpnaaaW.PrintWords Go.Proofs.YtcfoebkbahpnaaaW.PrintLast Go.Proofs.YtcfoebkbahpnaaaW.PrintMore
attribute [local go_sem] max2_int min2_int max_two min_two max_three min_three max_four min_four
set_option linter.unusedVariables false
set_option maxHeartbeats 8000000
set_option maxRecDepth 100000
set_option linter.unusedSimpArgs false
def legationref07_patterns.l0 : Nat → List (S53) → Int → Option (Bool)
  | 0, _, _ => none
  | k + 1, x0, x3 => if x3 < (x0.length : Int) then (if 0 ≤ x3 then ((legationref03_RightPattern.f k ((rd_T53 x0 x3).f0.f0) ((rd_T53 x0 x3).f0.f1) ((rd_T53 x0 x3).f0.f2) ((rd_T53 x0 x3).f0.f3) ((rd_T53 x0 x3).f1.f0) ((rd_T53 x0 x3).f1.f1) ((rd_T53 x0 x3).f1.f2) ((rd_T53 x0 x3).f1.f3) ((rd_T53 x0 x3).f2.f0) ((rd_T53 x0 x3).f2.f1) ((rd_T53 x0 x3).f2.f2) ((rd_T53 x0 x3).f2.f3)).bind fun t139 => (if t139 = true then (legationref07_patterns.l0 k x0 (wrap64 (x3 + 1))) else (some false))) else (none)) else (some (decide ((x0.length : Int) ≤ 32)))
def legationref07_patterns.f (k : Nat) (l0 : List (S53)) : Option (Bool) := legationref07_patterns.l0 k l0 0
theorem legationref07_patterns.calls (k:Nat) (A0:Option Addr) (c0:Nat) (l0:List (S53)) (r:Bool) (w:World) (hr0:Kd.C k53 w A0 l0.length l0) (hc0:l0.length≤c0) (h:legationref07_patterns.f k l0=some r):
 Calls Try.prog 70 #[.slice A0 l0.length c0] w fun e w'=>e= .returned (.bool r)∧Below w.heap.size w w':=by
 have HR0:=zA hr0;have HC0:=zA hc0;clear hr0 hc0;have HB:=zA (Below.refl w.heap.size w);have H:(legationref07_patterns.l0 k l0 0)=some r:=h;clear h;have H':=zA H;clear H;go_enter Try.func70,Try.ntmps70;go_wp2;go_loopg [3] k (fun kq v3 w'=> ∃ (x3_1:Int),v3= .int .i64 x3_1∧Aside0 (legationref07_patterns.l0 kq l0 x3_1=some r)∧Aside0 (kq≤k)∧Aside0 (Below w.heap.size w w'));(case atStart=>exact⟨(0),(by rfl),H',⟨Nat.le_refl _⟩,⟨HB.out⟩⟩);case round=>
  clear H';obtain⟨x3_1,rfl,HA,HK1,HB⟩:=hrel;cases gk with
  |zero=>exact absurd HA.out (by simp[legationref07_patterns.l0])
  |succ k1=>
   have H:=HA.out;clear HA;simp only[legationref07_patterns.l0]at H;obtain⟨c2b0,H⟩|⟨c2b0,H⟩:=zj H
   ·obtain⟨c3b0,H⟩|⟨_,H⟩:=zj H
    ·obtain⟨t139,A4,H⟩:=zk H;by_cases c5:t139=true
     ·subst c5;rw[if_pos rfl]at H;have H':=zA H;clear H;have p138:0≤(x3_1:Int):=zD;have q138:x3_1<(l0.length:Int):=zD;obtain⟨ad138,e138,hx138_0,hx138_1,hx138_2,hx138_3,hx138_4,hx138_5,hx138_6,hx138_7,hx138_8,hx138_9,hx138_10,hx138_11⟩:=at_T53 (Kd.C_below HR0.out HB.out) x3_1 p138 q138;cases e138
      replace p138:=eq_true p138;replace q138:=eq_true q138;go_wp2_with (((with_reducible refine gate_callee (f:=94) rfl ?_);refine zY (some 14) Try.func94 (legationref03_RightPattern.calls _ _ _ _ _ _ _ _ _ _ _ _ _ _ _ A4.out) ?_;rintro e w6 ⟨rfl,hb⟩;refine⟨_,rfl,?_⟩;replace HB:=zS HB.out hb;(try clear hb)));go_roundg k1;(case measure=>have:=HK1.out;omega);case rel=>exact⟨(wrap64 (x3_1+1)),(by rfl),H',⟨by have:=HK1.out;omega⟩,⟨HB.out⟩⟩
     ·replace c5:=Bool.eq_false_iff.mpr c5;subst c5;rw[if_neg (show ¬(false=true)by decide)]at H;obtain rfl:=Option.some.inj H;have p138:0≤(x3_1:Int):=zD;have q138:x3_1<(l0.length:Int):=zD;obtain⟨ad138,e138,hx138_0,hx138_1,hx138_2,hx138_3,hx138_4,hx138_5,hx138_6,hx138_7,hx138_8,hx138_9,hx138_10,hx138_11⟩:=at_T53 (Kd.C_below HR0.out HB.out) x3_1 p138 q138;cases e138
      replace p138:=eq_true p138;replace q138:=eq_true q138;go_wp2_with (((with_reducible refine gate_callee (f:=94) rfl ?_);refine zY (some 14) Try.func94 (legationref03_RightPattern.calls _ _ _ _ _ _ _ _ _ _ _ _ _ _ _ A4.out) ?_;rintro e w7 ⟨rfl,hb⟩;refine⟨_,rfl,?_⟩;replace HB:=zS HB.out hb;(try clear hb)));go_ret;exact⟨by rfl,HB.out⟩
    ·cases H
   ·obtain rfl:=Option.some.inj H;go_wp2;go_ret;exact⟨by rfl,HB.out⟩
def legationref07_value.f (k : Nat) (a0_0 : Int) (a0_1 : ByteArray) (a0_2 : ByteArray) (a0_3 : ByteArray) : Option (Bool) := (legationref01_Right.f k a0_0 a0_1 a0_2 a0_3).bind fun t141 => (if t141 = true then (if a0_0 = 0 then (some true) else (if a0_0 = 1 then (some true) else (some (a0_0 == 2)))) else (some false))
theorem legationref07_value.calls (k:Nat) (a0_0:Int) (a0_1:ByteArray) (a0_2:ByteArray) (a0_3:ByteArray) (r:Bool) (w:World) (h:legationref07_value.f k a0_0 a0_1 a0_2 a0_3=some r):
 Calls Try.prog 95 #[.agg #[.int .i64 a0_0,.string a0_1,.string a0_2,.string a0_3]] w fun e w'=>e= .returned (.bool r)∧Below w.heap.size w w':=by
 have HB:=zA (Below.refl w.heap.size w);have H:((legationref01_Right.f k a0_0 a0_1 a0_2 a0_3).bind fun t141=>(if t141=true then(if a0_0=0 then(some true)else(if a0_0=1 then(some true)else(some (a0_0==2))))else(some false)))=some r:=h;clear h;obtain⟨t141,A2,H⟩:=zk H;by_cases c3:t141=true
 ·subst c3;rw[if_pos rfl]at H;obtain⟨c4b0,H⟩|⟨c4b0,H⟩:=zb H
  ·obtain rfl:=Option.some.inj H;go_enter Try.func95,Try.ntmps95;go_wp2_with (first|((with_reducible refine gate_dst (N:=1) rfl ?_);refine zE #[.int .i64 a0_0,.string a0_1,.string a0_2,.string a0_3] 50 ?_;intro gb140 hg w5 hbox hb;have BK140:=zA hbox;have GW140:=zZ HB.out hg;replace HB:=zS HB.out hb;clear hb hbox hg;have hcz6_0:=zc40 BK140.out;have hcz6_1:=zc41 BK140.out;have hcz6_2:=zc42 BK140.out;have hcz6_3:=zc43 BK140.out)|((with_reducible refine gate_callee (f:=106) rfl ?_);refine zY (some 4) Try.func106 (legationref01_Right.calls _ _ _ _ _ _ _ A2.out) ?_;rintro e w7 ⟨rfl,hb⟩;refine⟨_,rfl,?_⟩;replace BK140:=zB BK140.out hb;replace HB:=zS HB.out hb;(try clear hb);have hcz8_0:=zc40 BK140.out));go_ret;exact⟨by rfl,HB.out⟩
  ·obtain⟨c9b0,H⟩|⟨c9b0,H⟩:=zb H
   ·obtain rfl:=Option.some.inj H;go_enter Try.func95,Try.ntmps95;go_wp2_with (first|((with_reducible refine gate_dst (N:=1) rfl ?_);refine zE #[.int .i64 a0_0,.string a0_1,.string a0_2,.string a0_3] 50 ?_;intro gb140 hg w10 hbox hb;have BK140:=zA hbox;have GW140:=zZ HB.out hg;replace HB:=zS HB.out hb;clear hb hbox hg;have hcz11_0:=zc40 BK140.out;have hcz11_1:=zc41 BK140.out;have hcz11_2:=zc42 BK140.out;have hcz11_3:=zc43 BK140.out)|((with_reducible refine gate_callee (f:=106) rfl ?_);refine zY (some 4) Try.func106 (legationref01_Right.calls _ _ _ _ _ _ _ A2.out) ?_;rintro e w12 ⟨rfl,hb⟩;refine⟨_,rfl,?_⟩;replace BK140:=zB BK140.out hb;replace HB:=zS HB.out hb;(try clear hb);have hcz13_0:=zc40 BK140.out));go_ret;exact⟨by rfl,HB.out⟩
   ·obtain rfl:=Option.some.inj H;go_enter Try.func95,Try.ntmps95;go_wp2_with (first|((with_reducible refine gate_dst (N:=1) rfl ?_);refine zE #[.int .i64 a0_0,.string a0_1,.string a0_2,.string a0_3] 50 ?_;intro gb140 hg w14 hbox hb;have BK140:=zA hbox;have GW140:=zZ HB.out hg;replace HB:=zS HB.out hb;clear hb hbox hg;have hcz15_0:=zc40 BK140.out;have hcz15_1:=zc41 BK140.out;have hcz15_2:=zc42 BK140.out;have hcz15_3:=zc43 BK140.out)|((with_reducible refine gate_callee (f:=106) rfl ?_);refine zY (some 4) Try.func106 (legationref01_Right.calls _ _ _ _ _ _ _ A2.out) ?_;rintro e w16 ⟨rfl,hb⟩;refine⟨_,rfl,?_⟩;replace BK140:=zB BK140.out hb;replace HB:=zS HB.out hb;(try clear hb);have hcz17_0:=zc40 BK140.out));go_ret;exact⟨by rfl,HB.out⟩
 ·replace c3:=Bool.eq_false_iff.mpr c3;subst c3;rw[if_neg (show ¬(false=true)by decide)]at H;obtain rfl:=Option.some.inj H;go_enter Try.func95,Try.ntmps95;go_wp2_with (first|((with_reducible refine gate_dst (N:=1) rfl ?_);refine zE #[.int .i64 a0_0,.string a0_1,.string a0_2,.string a0_3] 50 ?_;intro gb140 hg w18 hbox hb;have BK140:=zA hbox;have GW140:=zZ HB.out hg;replace HB:=zS HB.out hb;clear hb hbox hg;have hcz19_0:=zc40 BK140.out;have hcz19_1:=zc41 BK140.out;have hcz19_2:=zc42 BK140.out;have hcz19_3:=zc43 BK140.out)|((with_reducible refine gate_callee (f:=106) rfl ?_);refine zY (some 4) Try.func106 (legationref01_Right.calls _ _ _ _ _ _ _ A2.out) ?_;rintro e w20 ⟨rfl,hb⟩;refine⟨_,rfl,?_⟩;replace BK140:=zB BK140.out hb;replace HB:=zS HB.out hb;(try clear hb)));go_ret;exact⟨by rfl,HB.out⟩
end Go.Proofs.Ytcfoebkbahpnaaa.L

namespace Go.Proofs.Ytcfoebkbahpnaaa.L
open Go.RowKit Go.Proofs.YtcfoebkbahpnaaaW.PrintWords Go.Proofs.YtcfoebkbahpnaaaW.PrintLast Go.Proofs.YtcfoebkbahpnaaaW.PrintMore
attribute [local go_sem] max2_int min2_int max_two min_two max_three min_three max_four min_four
set_option linter.unusedVariables false
set_option maxHeartbeats 8000000
set_option maxRecDepth 100000
set_option linter.unusedSimpArgs false
theorem eqA50 (d:Nat) (w:World) (x0 y0:Int) (x1 y1:ByteArray) (x2 y2:ByteArray) (x3 y3:ByteArray):
 (Op.equalIn (d+2) 50 (.agg #[.int .i64 x0,.string x1,.string x2,.string x3]) (.agg #[.int .i64 y0,.string y1,.string y2,.string y3])).run Try.prog w= .ok (x0==y0 && (x1.toList==y1.toList && (x2.toList==y2.toList && (x3.toList==y3.toList)))) w:=by
 refine eqA_of Try.underlying50 (by kernel_rfl) ?_;refine eqf_cons (by rfl) (by go_simp;rfl) (by go_simp;rfl) (by go_simp) ?_;refine eqf_cons (by rfl) (by go_simp;rfl) (by go_simp;rfl) (by go_simp) ?_;refine eqf_cons (by rfl) (by go_simp;rfl) (by go_simp;rfl) (by go_simp) ?_;exact eqf_last (by rfl) (by go_simp;rfl) (by go_simp;rfl) (by go_simp)
end Go.Proofs.Ytcfoebkbahpnaaa.L

namespace Go.Proofs.Ytcfoebkbahpnaaa.L
open Go.RowKit Go.Proofs.YtcfoebkbahpnaaaW.PrintWords Go.Proofs.YtcfoebkbahpnaaaW.PrintLast Go.Proofs.YtcfoebkbahpnaaaW.PrintMore
attribute [local go_sem] max2_int min2_int max_two min_two max_three min_three max_four min_four
set_option linter.unusedVariables false
set_option maxHeartbeats 8000000
set_option maxRecDepth 100000
set_option linter.unusedSimpArgs false
theorem eqA112 (d:Nat) (w:World) (x0 y0:Int) (x1 y1:Int) (x2 y2:ByteArray) (x3 y3:ByteArray) (x4 y4:ByteArray) (x5 y5:ByteArray) (x6 y6:Int):
 (Op.equalIn (d+3) 112 (.agg #[.int .i64 x0,.int .i64 x1,.string x2,.string x3,.string x4,.string x5,.int .i64 x6]) (.agg #[.int .i64 y0,.int .i64 y1,.string y2,.string y3,.string y4,.string y5,.int .i64 y6])).run Try.prog w= .ok (x0==y0 && ((x1==y1 && (x2.toList==y2.toList && (x3.toList==y3.toList && (x4.toList==y4.toList)))) && (x5.toList==y5.toList && (x6==y6)))) w:=by
 refine eqA_of Try.underlying112 (by kernel_rfl) ?_;refine eqf_cons (by rfl) (by go_simp;rfl) (by go_simp;rfl) (by go_simp) ?_;refine eqf_cons (by rfl) (by go_simp) (by go_simp) (eqA50 (d+0) w _ _ _ _ _ _ _ _) ?_;refine eqf_cons (by rfl) (by go_simp;rfl) (by go_simp;rfl) (by go_simp) ?_;exact eqf_last (by rfl) (by go_simp;rfl) (by go_simp;rfl) (by go_simp)
end Go.Proofs.Ytcfoebkbahpnaaa.L
