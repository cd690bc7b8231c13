import Derived.Test.YtcfoebkbahpnaaaDCx0
import Derived.Test.YtcfoebkbahpnaaaDCx21
namespace Go.Proofs.Ytcfoebkbahpnaaa.L
open Go.RowKit Go.Proofs.YtcfoebkbahpnaaaW.PrintWords Go.Proofs.YtcfoebkbahpnaaaW.PrintLast Go.Proofs.YtcfoebkbahpnaaaW.PrintMore
attribute [local go_sem] max2_int min2_int max_two min_two max_three min_three max_four min_four
set_option linter.unusedVariables false
set_option maxHeartbeats 8000000
set_option maxRecDepth 100000
set_option linter.unusedSimpArgs false
def legationref03_RightPattern.j0 : Nat → Bool → Int → ByteArray → ByteArray → ByteArray → Int → ByteArray → ByteArray → ByteArray → Int → ByteArray → ByteArray → ByteArray → Option (Bool)
  | 0, _, _, _, _, _, _, _, _, _, _, _, _, _ => none
  | k + 1, x18, x228000, x228001, x228002, x228003, x228004, x228005, x228006, x228007, x228008, x228009, x228010, x228011 => if x18 = true then (some false) else (if x228000 = 1 then (if x228004 = 1 then (if x228008 = 1 then (some true) else (if x228008 = 2 then (some true) else (some (x228008 == 4)))) else (if x228004 = 4 then (if x228008 = 1 then (some true) else (if x228008 = 2 then (some true) else (some (x228008 == 4)))) else (some false))) else (if x228000 = 4 then (if x228004 = 1 then (if x228008 = 1 then (some true) else (if x228008 = 2 then (some true) else (some (x228008 == 4)))) else (if x228004 = 4 then (if x228008 = 1 then (some true) else (if x228008 = 2 then (some true) else (some (x228008 == 4)))) else (some false))) else (some false)))
def legationref03_RightPattern.f (k : Nat) (a0_0 : Int) (a0_1 : ByteArray) (a0_2 : ByteArray) (a0_3 : ByteArray) (a0_4 : Int) (a0_5 : ByteArray) (a0_6 : ByteArray) (a0_7 : ByteArray) (a0_8 : Int) (a0_9 : ByteArray) (a0_10 : ByteArray) (a0_11 : ByteArray) : Option (Bool) := (legationref01_Right.f k a0_0 a0_1 a0_2 a0_3).bind fun t228 => (if t228 = true then ((legationref01_Right.f k a0_4 a0_5 a0_6 a0_7).bind fun t229 => (if t229 = true then ((legationref01_Right.f k a0_8 a0_9 a0_10 a0_11).bind fun t230 => (legationref03_RightPattern.j0 k (!t230) a0_0 a0_1 a0_2 a0_3 a0_4 a0_5 a0_6 a0_7 a0_8 a0_9 a0_10 a0_11)) else (legationref03_RightPattern.j0 k true a0_0 a0_1 a0_2 a0_3 a0_4 a0_5 a0_6 a0_7 a0_8 a0_9 a0_10 a0_11))) else (legationref03_RightPattern.j0 k true a0_0 a0_1 a0_2 a0_3 a0_4 a0_5 a0_6 a0_7 a0_8 a0_9 a0_10 a0_11))
theorem legationref03_RightPattern.calls (k:Nat) (a0_0:Int) (a0_1:ByteArray) (a0_2:ByteArray) (a0_3:ByteArray) (a0_4:Int) (a0_5:ByteArray) (a0_6:ByteArray) (a0_7:ByteArray) (a0_8:Int) (a0_9:ByteArray) (a0_10:ByteArray) (a0_11:ByteArray) (r:Bool) (w:World) (h:legationref03_RightPattern.f k a0_0 a0_1 a0_2 a0_3 a0_4 a0_5 a0_6 a0_7 a0_8 a0_9 a0_10 a0_11=some r):
 Calls Try.prog 94 #[.agg #[.int .i64 a0_0,.string a0_1,.string a0_2,.string a0_3,.int .i64 a0_4,.string a0_5,.string a0_6,.string a0_7,.int .i64 a0_8,.string a0_9,.string a0_10,.string a0_11]] w fun e w'=>e= .returned (.bool r)∧Below w.heap.size w w':=by
 have HB:=zA (Below.refl w.heap.size w);have H:((legationref01_Right.f k a0_0 a0_1 a0_2 a0_3).bind fun t228=>(if t228=true then((legationref01_Right.f k a0_4 a0_5 a0_6 a0_7).bind fun t229=>(if t229=true then((legationref01_Right.f k a0_8 a0_9 a0_10 a0_11).bind fun t230=>(legationref03_RightPattern.j0 k (!t230) a0_0 a0_1 a0_2 a0_3 a0_4 a0_5 a0_6 a0_7 a0_8 a0_9 a0_10 a0_11))else(legationref03_RightPattern.j0 k true a0_0 a0_1 a0_2 a0_3 a0_4 a0_5 a0_6 a0_7 a0_8 a0_9 a0_10 a0_11)))else(legationref03_RightPattern.j0 k true a0_0 a0_1 a0_2 a0_3 a0_4 a0_5 a0_6 a0_7 a0_8 a0_9 a0_10 a0_11)))=some r:=h;clear h;have HC2:=zA H;clear H;go_enter Try.func94,Try.ntmps94;go_upto_region 1 with (((with_reducible refine gate_dst (N:=1) rfl ?_);refine zE #[.int .i64 a0_0,.string a0_1,.string a0_2,.string a0_3,.int .i64 a0_4,.string a0_5,.string a0_6,.string a0_7,.int .i64 a0_8,.string a0_9,.string a0_10,.string a0_11] 53 ?_;intro gb227 hg w3 hbox hb;have BK227:=zA hbox;have GW227:=zZ HB.out hg;replace HB:=zS HB.out hb;clear hb hbox hg))
 go_cut [18] (fun v18 wc=> ∃ (kq:Nat) (x18_1:Bool),v18= .bool x18_1∧Aside0 (legationref03_RightPattern.j0 kq x18_1 a0_0 a0_1 a0_2 a0_3 a0_4 a0_5 a0_6 a0_7 a0_8 a0_9 a0_10 a0_11=some r)∧Aside0 (kq≤k)∧Aside0 (wc.heap[gb227]? =some (.cells #[.int .i64 a0_0,.string a0_1,.string a0_2,.string a0_3,.int .i64 a0_4,.string a0_5,.string a0_6,.string a0_7,.int .i64 a0_8,.string a0_9,.string a0_10,.string a0_11] 53 (0,0)))∧Aside0 (Below w.heap.size w wc));case first=>
  have H:=HC2.out;clear HC2;obtain⟨t228,A4,H⟩:=zk H;by_cases c5:t228=true
  ·subst c5;rw[if_pos rfl]at H;obtain⟨t229,A6,H⟩:=zk H;by_cases c7:t229=true
   ·subst c7;rw[if_pos rfl]at H;obtain⟨t230,A8,H⟩:=zk H;have H':=zA H;clear H;have hcz9_0:=zc12_0 BK227.out;have hcz9_1:=zc12_1 BK227.out;have hcz9_2:=zc12_2 BK227.out;have hcz9_3:=zc12_3 BK227.out;go_wp2_with (first|((with_reducible refine gate_callee (f:=106) rfl ?_);refine zY (some 5) Try.func106 (legationref01_Right.calls _ _ _ _ _ _ _ A4.out) ?_;rintro e w10 ⟨rfl,hb⟩;refine⟨_,rfl,?_⟩;replace BK227:=zB BK227.out hb;replace HB:=zS HB.out hb;(try clear hb);have hcz11_4:=zc12_4 BK227.out;have hcz11_5:=zc12_5 BK227.out;have hcz11_6:=zc12_6 BK227.out;have hcz11_7:=zc12_7 BK227.out)|(go_at_call 106;(with_reducible refine(legationref01_Right.calls k a0_4 a0_5 a0_6 a0_7 true _ A6.out).mono ?_);rintro e w12 ⟨rfl,hb⟩;replace BK227:=zB BK227.out hb;replace HB:=zS HB.out hb;(try clear hb);have hcz13_8:=zc12_8 BK227.out;have hcz13_9:=zc12_9 BK227.out;have hcz13_10:=zc12_10 BK227.out;have hcz13_11:=zc12_11 BK227.out)|(go_at_call 106;(with_reducible refine(legationref01_Right.calls k a0_8 a0_9 a0_10 a0_11 t230 _ A8.out).mono ?_);rintro e w14 ⟨rfl,hb⟩;replace BK227:=zB BK227.out hb;replace HB:=zS HB.out hb;(try clear hb)));go_meet;case rel=>exact⟨_,(!t230),(by rfl),H',⟨by omega⟩,⟨by exact BK227.out⟩,⟨HB.out⟩⟩
   ·replace c7:=Bool.eq_false_iff.mpr c7;subst c7;rw[if_neg (show ¬(false=true)by decide)]at H;have H':=zA H;clear H;have hcz15_0:=zc12_0 BK227.out;have hcz15_1:=zc12_1 BK227.out;have hcz15_2:=zc12_2 BK227.out;have hcz15_3:=zc12_3 BK227.out;go_wp2_with (first|((with_reducible refine gate_callee (f:=106) rfl ?_);refine zY (some 5) Try.func106 (legationref01_Right.calls _ _ _ _ _ _ _ A4.out) ?_;rintro e w16 ⟨rfl,hb⟩;refine⟨_,rfl,?_⟩;replace BK227:=zB BK227.out hb;replace HB:=zS HB.out hb;(try clear hb);have hcz17_4:=zc12_4 BK227.out;have hcz17_5:=zc12_5 BK227.out;have hcz17_6:=zc12_6 BK227.out;have hcz17_7:=zc12_7 BK227.out)|(go_at_call 106;(with_reducible refine(legationref01_Right.calls k a0_4 a0_5 a0_6 a0_7 false _ A6.out).mono ?_);rintro e w18 ⟨rfl,hb⟩;replace BK227:=zB BK227.out hb;replace HB:=zS HB.out hb;(try clear hb)));go_meet;case rel=>exact⟨_,(true),(by rfl),H',⟨by omega⟩,⟨by exact BK227.out⟩,⟨HB.out⟩⟩
  ·replace c5:=Bool.eq_false_iff.mpr c5;subst c5;rw[if_neg (show ¬(false=true)by decide)]at H;have H':=zA H;clear H;have hcz19_0:=zc12_0 BK227.out;have hcz19_1:=zc12_1 BK227.out;have hcz19_2:=zc12_2 BK227.out;have hcz19_3:=zc12_3 BK227.out;go_wp2_with (((with_reducible refine gate_callee (f:=106) rfl ?_);refine zY (some 5) Try.func106 (legationref01_Right.calls _ _ _ _ _ _ _ A4.out) ?_;rintro e w20 ⟨rfl,hb⟩;refine⟨_,rfl,?_⟩;replace BK227:=zB BK227.out hb;replace HB:=zS HB.out hb;(try clear hb)));go_meet;case rel=>exact⟨_,(true),(by rfl),H',⟨by omega⟩,⟨by exact BK227.out⟩,⟨HB.out⟩⟩
 case rest=>
  clear HC2;obtain⟨kq,x18_1,rfl,HA,HJ1,BK227,HB⟩:=hcut;cases kq with
  |zero=>exact absurd HA.out (by simp[legationref03_RightPattern.j0])
  |succ kj1=>
   have H:=HA.out;clear HA;simp only[legationref03_RightPattern.j0]at H;by_cases c21:x18_1=true
   ·subst c21;rw[if_pos rfl]at H;obtain rfl:=Option.some.inj H;go_wp2;go_ret;exact⟨by rfl,HB.out⟩
   ·replace c21:=Bool.eq_false_iff.mpr c21;subst c21;rw[if_neg (show ¬(false=true)by decide)]at H;obtain⟨c22b0,H⟩|⟨c22b0,H⟩:=zb H
    ·obtain⟨c23b0,H⟩|⟨c23b0,H⟩:=zb H
     ·obtain⟨c24b0,H⟩|⟨c24b0,H⟩:=zb H
      ·obtain rfl:=Option.some.inj H;have hcz25_0:=zc12_0 BK227.out;have hcz25_4:=zc12_4 BK227.out;have hcz25_8:=zc12_8 BK227.out;go_wp2;go_ret;exact⟨by rfl,HB.out⟩
      ·obtain⟨c26b0,H⟩|⟨c26b0,H⟩:=zb H
       ·obtain rfl:=Option.some.inj H;have hcz27_0:=zc12_0 BK227.out;have hcz27_4:=zc12_4 BK227.out;have hcz27_8:=zc12_8 BK227.out;go_wp2;go_ret;exact⟨by rfl,HB.out⟩
       ·obtain rfl:=Option.some.inj H;have hcz28_0:=zc12_0 BK227.out;have hcz28_4:=zc12_4 BK227.out;have hcz28_8:=zc12_8 BK227.out;go_wp2;go_ret;exact⟨by rfl,HB.out⟩
     ·obtain⟨c29b0,H⟩|⟨c29b0,H⟩:=zb H
      ·obtain⟨c30b0,H⟩|⟨c30b0,H⟩:=zb H
       ·obtain rfl:=Option.some.inj H;have hcz31_0:=zc12_0 BK227.out;have hcz31_4:=zc12_4 BK227.out;have hcz31_8:=zc12_8 BK227.out;go_wp2;go_ret;exact⟨by rfl,HB.out⟩
       ·obtain⟨c32b0,H⟩|⟨c32b0,H⟩:=zb H
        ·obtain rfl:=Option.some.inj H;have hcz33_0:=zc12_0 BK227.out;have hcz33_4:=zc12_4 BK227.out;have hcz33_8:=zc12_8 BK227.out;go_wp2;go_ret;exact⟨by rfl,HB.out⟩
        ·obtain rfl:=Option.some.inj H;have hcz34_0:=zc12_0 BK227.out;have hcz34_4:=zc12_4 BK227.out;have hcz34_8:=zc12_8 BK227.out;go_wp2;go_ret;exact⟨by rfl,HB.out⟩
      ·obtain rfl:=Option.some.inj H;have hcz35_0:=zc12_0 BK227.out;have hcz35_4:=zc12_4 BK227.out;go_wp2;go_ret;exact⟨by rfl,HB.out⟩
    ·obtain⟨c36b0,H⟩|⟨c36b0,H⟩:=zb H
     ·obtain⟨c37b0,H⟩|⟨c37b0,H⟩:=zb H
      ·obtain⟨c38b0,H⟩|⟨c38b0,H⟩:=zb H
       ·obtain rfl:=Option.some.inj H;have hcz39_0:=zc12_0 BK227.out;have hcz39_4:=zc12_4 BK227.out;have hcz39_8:=zc12_8 BK227.out;go_wp2;go_ret;exact⟨by rfl,HB.out⟩
       ·obtain⟨c40b0,H⟩|⟨c40b0,H⟩:=zb H
        ·obtain rfl:=Option.some.inj H;have hcz41_0:=zc12_0 BK227.out;have hcz41_4:=zc12_4 BK227.out;have hcz41_8:=zc12_8 BK227.out;go_wp2;go_ret;exact⟨by rfl,HB.out⟩
        ·obtain rfl:=Option.some.inj H;have hcz42_0:=zc12_0 BK227.out;have hcz42_4:=zc12_4 BK227.out;have hcz42_8:=zc12_8 BK227.out;go_wp2;go_ret;exact⟨by rfl,HB.out⟩
      ·obtain⟨c43b0,H⟩|⟨c43b0,H⟩:=zb H
       ·obtain⟨c44b0,H⟩|⟨c44b0,H⟩:=zb H
        ·obtain rfl:=Option.some.inj H;have hcz45_0:=zc12_0 BK227.out;have hcz45_4:=zc12_4 BK227.out;have hcz45_8:=zc12_8 BK227.out;go_wp2;go_ret;exact⟨by rfl,HB.out⟩
        ·obtain⟨c46b0,H⟩|⟨c46b0,H⟩:=zb H
         ·obtain rfl:=Option.some.inj H;have hcz47_0:=zc12_0 BK227.out;have hcz47_4:=zc12_4 BK227.out;have hcz47_8:=zc12_8 BK227.out;go_wp2;go_ret;exact⟨by rfl,HB.out⟩
         ·obtain rfl:=Option.some.inj H;have hcz48_0:=zc12_0 BK227.out;have hcz48_4:=zc12_4 BK227.out;have hcz48_8:=zc12_8 BK227.out;go_wp2;go_ret;exact⟨by rfl,HB.out⟩
       ·obtain rfl:=Option.some.inj H;have hcz49_0:=zc12_0 BK227.out;have hcz49_4:=zc12_4 BK227.out;go_wp2;go_ret;exact⟨by rfl,HB.out⟩
     ·obtain rfl:=Option.some.inj H;have hcz50_0:=zc12_0 BK227.out;go_wp2;go_ret;exact⟨by rfl,HB.out⟩
end Go.Proofs.Ytcfoebkbahpnaaa.L

namespace Go.Proofs.Ytcfoebkbahpnaaa.L
open Go.RowKit Go.Proofs.YtcfoebkbahpnaaaW.PrintWords Go.Proofs.YtcfoebkbahpnaaaW.PrintLast Go.Proofs.YtcfoebkbahpnaaaW.PrintMore
attribute [local go_sem] max2_int min2_int max_two min_two max_three min_three max_four min_four
set_option linter.unusedVariables false
set_option maxHeartbeats 8000000
set_option maxRecDepth 100000
set_option linter.unusedSimpArgs false
def legationref07_patterns.l0 : Nat → List (S53) → Int → Option (Bool)
  | 0, _, _ => none
  | k + 1, x0, x3 => if x3 < (x0.length : Int) then (if 0 ≤ x3 then ((legationref03_RightPattern.f k ((rd_T53 x0 x3).f0.f0) ((rd_T53 x0 x3).f0.f1) ((rd_T53 x0 x3).f0.f2) ((rd_T53 x0 x3).f0.f3) ((rd_T53 x0 x3).f1.f0) ((rd_T53 x0 x3).f1.f1) ((rd_T53 x0 x3).f1.f2) ((rd_T53 x0 x3).f1.f3) ((rd_T53 x0 x3).f2.f0) ((rd_T53 x0 x3).f2.f1) ((rd_T53 x0 x3).f2.f2) ((rd_T53 x0 x3).f2.f3)).bind fun t232 => (if t232 = true then (legationref07_patterns.l0 k x0 (wrap64 (x3 + 1))) else (some false))) else (none)) else (some (decide ((x0.length : Int) ≤ 32)))
def legationref07_patterns.f (k : Nat) (l0 : List (S53)) : Option (Bool) := legationref07_patterns.l0 k l0 0
theorem legationref07_patterns.calls (k:Nat) (A0:Option Addr) (c0:Nat) (l0:List (S53)) (r:Bool) (w:World) (hr0:Kd.C k53 w A0 l0.length l0) (hc0:l0.length≤c0) (h:legationref07_patterns.f k l0=some r):
 Calls Try.prog 70 #[.slice A0 l0.length c0] w fun e w'=>e= .returned (.bool r)∧Below w.heap.size w w':=by
 have HR0:=zA hr0;have HC0:=zA hc0;clear hr0 hc0;have HB:=zA (Below.refl w.heap.size w);have H:(legationref07_patterns.l0 k l0 0)=some r:=h;clear h;have H':=zA H;clear H;go_enter Try.func70,Try.ntmps70;go_wp2;go_loopg [3] k (fun kq v3 w'=> ∃ (x3_1:Int),v3= .int .i64 x3_1∧Aside0 (legationref07_patterns.l0 kq l0 x3_1=some r)∧Aside0 (kq≤k)∧Aside0 (Below w.heap.size w w'));(case atStart=>exact⟨(0),(by rfl),H',⟨Nat.le_refl _⟩,⟨HB.out⟩⟩);case round=>
  clear H';obtain⟨x3_1,rfl,HA,HK1,HB⟩:=hrel;cases gk with
  |zero=>exact absurd HA.out (by simp[legationref07_patterns.l0])
  |succ k1=>
   have H:=HA.out;clear HA;simp only[legationref07_patterns.l0]at H;obtain⟨c2b0,H⟩|⟨c2b0,H⟩:=zj H
   ·obtain⟨c3b0,H⟩|⟨_,H⟩:=zj H
    ·obtain⟨t232,A4,H⟩:=zk H;by_cases c5:t232=true
     ·subst c5;rw[if_pos rfl]at H;have H':=zA H;clear H;have p231:0≤(x3_1:Int):=zD;have q231:x3_1<(l0.length:Int):=zD;obtain⟨ad231,e231,hx231_0,hx231_1,hx231_2,hx231_3,hx231_4,hx231_5,hx231_6,hx231_7,hx231_8,hx231_9,hx231_10,hx231_11⟩:=at_T53 (Kd.C_below HR0.out HB.out) x3_1 p231 q231;cases e231
      replace p231:=eq_true p231;replace q231:=eq_true q231;go_wp2_with (((with_reducible refine gate_callee (f:=94) rfl ?_);refine zY (some 14) Try.func94 (legationref03_RightPattern.calls _ _ _ _ _ _ _ _ _ _ _ _ _ _ _ A4.out) ?_;rintro e w6 ⟨rfl,hb⟩;refine⟨_,rfl,?_⟩;replace HB:=zS HB.out hb;(try clear hb)));go_roundg k1;(case measure=>have:=HK1.out;omega);case rel=>exact⟨(wrap64 (x3_1+1)),(by rfl),H',⟨by have:=HK1.out;omega⟩,⟨HB.out⟩⟩
     ·replace c5:=Bool.eq_false_iff.mpr c5;subst c5;rw[if_neg (show ¬(false=true)by decide)]at H;obtain rfl:=Option.some.inj H;have p231:0≤(x3_1:Int):=zD;have q231:x3_1<(l0.length:Int):=zD;obtain⟨ad231,e231,hx231_0,hx231_1,hx231_2,hx231_3,hx231_4,hx231_5,hx231_6,hx231_7,hx231_8,hx231_9,hx231_10,hx231_11⟩:=at_T53 (Kd.C_below HR0.out HB.out) x3_1 p231 q231;cases e231
      replace p231:=eq_true p231;replace q231:=eq_true q231;go_wp2_with (((with_reducible refine gate_callee (f:=94) rfl ?_);refine zY (some 14) Try.func94 (legationref03_RightPattern.calls _ _ _ _ _ _ _ _ _ _ _ _ _ _ _ A4.out) ?_;rintro e w7 ⟨rfl,hb⟩;refine⟨_,rfl,?_⟩;replace HB:=zS HB.out hb;(try clear hb)));go_ret;exact⟨by rfl,HB.out⟩
    ·cases H
   ·obtain rfl:=Option.some.inj H;go_wp2;go_ret;exact⟨by rfl,HB.out⟩
def legationref07_value.f (k : Nat) (a0_0 : Int) (a0_1 : ByteArray) (a0_2 : ByteArray) (a0_3 : ByteArray) : Option (Bool) := (legationref01_Right.f k a0_0 a0_1 a0_2 a0_3).bind fun t234 => (if t234 = true then (if a0_0 = 0 then (some true) else (if a0_0 = 1 then (some true) else (some (a0_0 == 2)))) else (some false))
theorem legationref07_value.calls (k:Nat) (a0_0:Int) (a0_1:ByteArray) (a0_2:ByteArray) (a0_3:ByteArray) (r:Bool) (w:World) (h:legationref07_value.f k a0_0 a0_1 a0_2 a0_3=some r):
 Calls Try.prog 95 #[.agg #[.int .i64 a0_0,.string a0_1,.string a0_2,.string a0_3]] w fun e w'=>e= .returned (.bool r)∧Below w.heap.size w w':=by
 have HB:=zA (Below.refl w.heap.size w);have H:((legationref01_Right.f k a0_0 a0_1 a0_2 a0_3).bind fun t234=>(if t234=true then(if a0_0=0 then(some true)else(if a0_0=1 then(some true)else(some (a0_0==2))))else(some false)))=some r:=h;clear h;obtain⟨t234,A2,H⟩:=zk H;by_cases c3:t234=true
 ·subst c3;rw[if_pos rfl]at H;obtain⟨c4b0,H⟩|⟨c4b0,H⟩:=zb H
  ·obtain rfl:=Option.some.inj H;go_enter Try.func95,Try.ntmps95;go_wp2_with (first|((with_reducible refine gate_dst (N:=1) rfl ?_);refine zE #[.int .i64 a0_0,.string a0_1,.string a0_2,.string a0_3] 50 ?_;intro gb233 hg w5 hbox hb;have BK233:=zA hbox;have GW233:=zZ HB.out hg;replace HB:=zS HB.out hb;clear hb hbox hg;have hcz6_0:=zc40 BK233.out;have hcz6_1:=zc41 BK233.out;have hcz6_2:=zc42 BK233.out;have hcz6_3:=zc43 BK233.out)|((with_reducible refine gate_callee (f:=106) rfl ?_);refine zY (some 4) Try.func106 (legationref01_Right.calls _ _ _ _ _ _ _ A2.out) ?_;rintro e w7 ⟨rfl,hb⟩;refine⟨_,rfl,?_⟩;replace BK233:=zB BK233.out hb;replace HB:=zS HB.out hb;(try clear hb);have hcz8_0:=zc40 BK233.out));go_ret;exact⟨by rfl,HB.out⟩
  ·obtain⟨c9b0,H⟩|⟨c9b0,H⟩:=zb H
   ·obtain rfl:=Option.some.inj H;go_enter Try.func95,Try.ntmps95;go_wp2_with (first|((with_reducible refine gate_dst (N:=1) rfl ?_);refine zE #[.int .i64 a0_0,.string a0_1,.string a0_2,.string a0_3] 50 ?_;intro gb233 hg w10 hbox hb;have BK233:=zA hbox;have GW233:=zZ HB.out hg;replace HB:=zS HB.out hb;clear hb hbox hg;have hcz11_0:=zc40 BK233.out;have hcz11_1:=zc41 BK233.out;have hcz11_2:=zc42 BK233.out;have hcz11_3:=zc43 BK233.out)|((with_reducible refine gate_callee (f:=106) rfl ?_);refine zY (some 4) Try.func106 (legationref01_Right.calls _ _ _ _ _ _ _ A2.out) ?_;rintro e w12 ⟨rfl,hb⟩;refine⟨_,rfl,?_⟩;replace BK233:=zB BK233.out hb;replace HB:=zS HB.out hb;(try clear hb);have hcz13_0:=zc40 BK233.out));go_ret;exact⟨by rfl,HB.out⟩
   ·obtain rfl:=Option.some.inj H;go_enter Try.func95,Try.ntmps95;go_wp2_with (first|((with_reducible refine gate_dst (N:=1) rfl ?_);refine zE #[.int .i64 a0_0,.string a0_1,.string a0_2,.string a0_3] 50 ?_;intro gb233 hg w14 hbox hb;have BK233:=zA hbox;have GW233:=zZ HB.out hg;replace HB:=zS HB.out hb;clear hb hbox hg;have hcz15_0:=zc40 BK233.out;have hcz15_1:=zc41 BK233.out;have hcz15_2:=zc42 BK233.out;have hcz15_3:=zc43 BK233.out)|((with_reducible refine gate_callee (f:=106) rfl ?_);refine zY (some 4) Try.func106 (legationref01_Right.calls _ _ _ _ _ _ _ A2.out) ?_;rintro e w16 ⟨rfl,hb⟩;refine⟨_,rfl,?_⟩;replace BK233:=zB BK233.out hb;replace HB:=zS HB.out hb;(try clear hb);have hcz17_0:=zc40 BK233.out));go_ret;exact⟨by rfl,HB.out⟩
 ·replace c3:=Bool.eq_false_iff.mpr c3;subst c3;rw[if_neg (show ¬(false=true)by decide)]at H;obtain rfl:=Option.some.inj H;go_enter Try.func95,Try.ntmps95;go_wp2_with (first|((with_reducible refine gate_dst (N:=1) rfl ?_);refine zE #[.int .i64 a0_0,.string a0_1,.string a0_2,.string a0_3] 50 ?_;intro gb233 hg w18 hbox hb;have BK233:=zA hbox;have GW233:=zZ HB.out hg;replace HB:=zS HB.out hb;clear hb hbox hg;have hcz19_0:=zc40 BK233.out;have hcz19_1:=zc41 BK233.out;have hcz19_2:=zc42 BK233.out;have hcz19_3:=zc43 BK233.out)|((with_reducible refine gate_callee (f:=106) rfl ?_);refine zY (some 4) Try.func106 (legationref01_Right.calls _ _ _ _ _ _ _ A2.out) ?_;rintro e w20 ⟨rfl,hb⟩;refine⟨_,rfl,?_⟩;replace BK233:=zB BK233.out hb;replace HB:=zS HB.out hb;(try clear hb)));go_ret;exact⟨by rfl,HB.out⟩
end Go.Proofs.Ytcfoebkbahpnaaa.L
