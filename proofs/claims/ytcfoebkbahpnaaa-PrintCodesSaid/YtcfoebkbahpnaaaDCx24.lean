import Derived.Test.YtcfoebkbahpnaaaDCx0
import Derived.Test.YtcfoebkbahpnaaaDCx22
namespace Go.Proofs.Ytcfoebkbahpnaaa.L
open Go.RowKit Go.Proofs.YtcfoebkbahpnaaaW.PrintWords Go.Proofs.YtcfoebkbahpnaaaW.PrintLast Go.Proofs.YtcfoebkbahpnaaaW.PrintMore
attribute [local go_sem] max2_int min2_int max_two min_two max_three min_three max_four min_four
set_option linter.unusedVariables false
set_option maxHeartbeats 8000000
set_option maxRecDepth 100000
set_option linter.unusedSimpArgs false
def triples_CheckPattern.j0 : Nat → Bool → Option (Int)
  | 0, _ => none
  | k + 1, x41 => if x41 = true then (some 2) else (some 0)
def triples_CheckPattern.f (k : Nat) (a0_0 : Int) (a0_1 : ByteArray) (a0_2 : ByteArray) (a0_3 : ByteArray) (a0_4 : Int) (a0_5 : ByteArray) (a0_6 : ByteArray) (a0_7 : ByteArray) (a0_8 : Int) (a0_9 : ByteArray) (a0_10 : ByteArray) (a0_11 : ByteArray) : Option (Int) := (triples_right.f k a0_0 a0_1 a0_2 a0_3 a0_4 a0_5 a0_6 a0_7 a0_8 a0_9 a0_10 a0_11).bind fun t305 => (if t305 = true then (if a0_0 = 1 then (if a0_4 = 1 then (if a0_8 = 0 then (triples_CheckPattern.j0 k true) else (triples_CheckPattern.j0 k (a0_8 == 3))) else (if a0_4 = 4 then (if a0_8 = 0 then (triples_CheckPattern.j0 k true) else (triples_CheckPattern.j0 k (a0_8 == 3))) else (triples_CheckPattern.j0 k true))) else (if a0_0 = 4 then (if a0_4 = 1 then (if a0_8 = 0 then (triples_CheckPattern.j0 k true) else (triples_CheckPattern.j0 k (a0_8 == 3))) else (if a0_4 = 4 then (if a0_8 = 0 then (triples_CheckPattern.j0 k true) else (triples_CheckPattern.j0 k (a0_8 == 3))) else (triples_CheckPattern.j0 k true))) else (triples_CheckPattern.j0 k true))) else (triples_CheckPattern.j0 k true))
theorem triples_CheckPattern.calls (k:Nat) (a0_0:Int) (a0_1:ByteArray) (a0_2:ByteArray) (a0_3:ByteArray) (a0_4:Int) (a0_5:ByteArray) (a0_6:ByteArray) (a0_7:ByteArray) (a0_8:Int) (a0_9:ByteArray) (a0_10:ByteArray) (a0_11:ByteArray) (r:Int) (w:World) (h:triples_CheckPattern.f k a0_0 a0_1 a0_2 a0_3 a0_4 a0_5 a0_6 a0_7 a0_8 a0_9 a0_10 a0_11=some r):
 Calls Try.prog 104 #[.agg #[.int .i64 a0_0,.string a0_1,.string a0_2,.string a0_3,.int .i64 a0_4,.string a0_5,.string a0_6,.string a0_7,.int .i64 a0_8,.string a0_9,.string a0_10,.string a0_11]] w fun e w'=>e= .returned (.int .i64 r)∧Below w.heap.size w w':=by
 have HB:=zA (Below.refl w.heap.size w);have H:((triples_right.f k a0_0 a0_1 a0_2 a0_3 a0_4 a0_5 a0_6 a0_7 a0_8 a0_9 a0_10 a0_11).bind fun t305=>(if t305=true then(if a0_0=1 then(if a0_4=1 then(if a0_8=0 then(triples_CheckPattern.j0 k true)else(triples_CheckPattern.j0 k (a0_8==3)))else(if a0_4=4 then(if a0_8=0 then(triples_CheckPattern.j0 k true)else(triples_CheckPattern.j0 k (a0_8==3)))else(triples_CheckPattern.j0 k true)))else(if a0_0=4 then(if a0_4=1 then(if a0_8=0 then(triples_CheckPattern.j0 k true)else(triples_CheckPattern.j0 k (a0_8==3)))else(if a0_4=4 then(if a0_8=0 then(triples_CheckPattern.j0 k true)else(triples_CheckPattern.j0 k (a0_8==3)))else(triples_CheckPattern.j0 k true)))else(triples_CheckPattern.j0 k true)))else(triples_CheckPattern.j0 k true)))=some r:=h;clear h;have HC2:=zA H;clear H;go_enter Try.func104,Try.ntmps104;go_upto_region 1 with (((with_reducible refine gate_dst (N:=1) rfl ?_);refine zE #[.int .i64 a0_0,.string a0_1,.string a0_2,.string a0_3,.int .i64 a0_4,.string a0_5,.string a0_6,.string a0_7,.int .i64 a0_8,.string a0_9,.string a0_10,.string a0_11] 53 ?_;intro gb304 hg w3 hbox hb;have BK304:=zA hbox;have GW304:=zZ HB.out hg;replace HB:=zS HB.out hb;clear hb hbox hg))
 go_cut [41] (fun v41 wc=> ∃ (kq:Nat) (x41_1:Bool),v41= .bool x41_1∧Aside0 (triples_CheckPattern.j0 kq x41_1=some r)∧Aside0 (kq≤k)∧Aside0 (wc.heap[gb304]? =some (.cells #[.int .i64 a0_0,.string a0_1,.string a0_2,.string a0_3,.int .i64 a0_4,.string a0_5,.string a0_6,.string a0_7,.int .i64 a0_8,.string a0_9,.string a0_10,.string a0_11] 53 (0,0)))∧Aside0 (Below w.heap.size w wc));case first=>
  have H:=HC2.out;clear HC2;obtain⟨t305,A4,H⟩:=zk H;by_cases c5:t305=true
  ·subst c5;rw[if_pos rfl]at H;obtain⟨c6b1,H⟩|⟨c6b1,H⟩:=zn H
   ·obtain⟨c7b1,H⟩|⟨c7b1,H⟩:=zn H
    ·obtain⟨c8b0,H⟩|⟨c8b0,H⟩:=zb H
     ·have H':=zA H;clear H;obtain⟨_,_,_,_,_,_,_,_,_,_,_,_⟩:=zd12 BK304.out;go_wp2_with (((with_reducible refine gate_callee (f:=115) rfl ?_);refine zY (some 4) Try.func115 (triples_right.calls _ _ _ _ _ _ _ _ _ _ _ _ _ _ _ A4.out) ?_;rintro e w10 ⟨rfl,hb⟩;refine⟨_,rfl,?_⟩;replace BK304:=zB BK304.out hb;replace HB:=zS HB.out hb;(try clear hb);have hcz11_0:=zc12_0 BK304.out;have hcz11_4:=zc12_4 BK304.out;have hcz11_8:=zc12_8 BK304.out));go_meet;case rel=>exact⟨_,(true),(by rfl),H',⟨by omega⟩,⟨by exact BK304.out⟩,⟨HB.out⟩⟩
     ·have H':=zA H;clear H;obtain⟨_,_,_,_,_,_,_,_,_,_,_,_⟩:=zd12 BK304.out;go_wp2_with (((with_reducible refine gate_callee (f:=115) rfl ?_);refine zY (some 4) Try.func115 (triples_right.calls _ _ _ _ _ _ _ _ _ _ _ _ _ _ _ A4.out) ?_;rintro e w13 ⟨rfl,hb⟩;refine⟨_,rfl,?_⟩;replace BK304:=zB BK304.out hb;replace HB:=zS HB.out hb;(try clear hb);have hcz14_0:=zc12_0 BK304.out;have hcz14_4:=zc12_4 BK304.out;have hcz14_8:=zc12_8 BK304.out));go_meet;case rel=>exact⟨_,((a0_8==3)),(by rfl),H',⟨by omega⟩,⟨by exact BK304.out⟩,⟨HB.out⟩⟩
    ·obtain⟨c15b1,H⟩|⟨c15b1,H⟩:=zn H
     ·obtain⟨c16b0,H⟩|⟨c16b0,H⟩:=zb H
      ·have H':=zA H;clear H;obtain⟨_,_,_,_,_,_,_,_,_,_,_,_⟩:=zd12 BK304.out;go_wp2_with (((with_reducible refine gate_callee (f:=115) rfl ?_);refine zY (some 4) Try.func115 (triples_right.calls _ _ _ _ _ _ _ _ _ _ _ _ _ _ _ A4.out) ?_;rintro e w18 ⟨rfl,hb⟩;refine⟨_,rfl,?_⟩;replace BK304:=zB BK304.out hb;replace HB:=zS HB.out hb;(try clear hb);have hcz19_0:=zc12_0 BK304.out;have hcz19_4:=zc12_4 BK304.out;have hcz19_8:=zc12_8 BK304.out));go_meet;case rel=>exact⟨_,(true),(by rfl),H',⟨by omega⟩,⟨by exact BK304.out⟩,⟨HB.out⟩⟩
      ·have H':=zA H;clear H;obtain⟨_,_,_,_,_,_,_,_,_,_,_,_⟩:=zd12 BK304.out;go_wp2_with (((with_reducible refine gate_callee (f:=115) rfl ?_);refine zY (some 4) Try.func115 (triples_right.calls _ _ _ _ _ _ _ _ _ _ _ _ _ _ _ A4.out) ?_;rintro e w21 ⟨rfl,hb⟩;refine⟨_,rfl,?_⟩;replace BK304:=zB BK304.out hb;replace HB:=zS HB.out hb;(try clear hb);have hcz22_0:=zc12_0 BK304.out;have hcz22_4:=zc12_4 BK304.out;have hcz22_8:=zc12_8 BK304.out));go_meet;case rel=>exact⟨_,((a0_8==3)),(by rfl),H',⟨by omega⟩,⟨by exact BK304.out⟩,⟨HB.out⟩⟩
     ·have H':=zA H;clear H;obtain⟨_,_,_,_,_,_,_,_,_,_,_,_⟩:=zd12 BK304.out;go_wp2_with (((with_reducible refine gate_callee (f:=115) rfl ?_);refine zY (some 4) Try.func115 (triples_right.calls _ _ _ _ _ _ _ _ _ _ _ _ _ _ _ A4.out) ?_;rintro e w24 ⟨rfl,hb⟩;refine⟨_,rfl,?_⟩;replace BK304:=zB BK304.out hb;replace HB:=zS HB.out hb;(try clear hb);have hcz25_0:=zc12_0 BK304.out;have hcz25_4:=zc12_4 BK304.out));go_meet;case rel=>exact⟨_,(true),(by rfl),H',⟨by omega⟩,⟨by exact BK304.out⟩,⟨HB.out⟩⟩
   ·obtain⟨c26b1,H⟩|⟨c26b1,H⟩:=zn H
    ·obtain⟨c27b1,H⟩|⟨c27b1,H⟩:=zn H
     ·obtain⟨c28b0,H⟩|⟨c28b0,H⟩:=zb H
      ·have H':=zA H;clear H;obtain⟨_,_,_,_,_,_,_,_,_,_,_,_⟩:=zd12 BK304.out;go_wp2_with (((with_reducible refine gate_callee (f:=115) rfl ?_);refine zY (some 4) Try.func115 (triples_right.calls _ _ _ _ _ _ _ _ _ _ _ _ _ _ _ A4.out) ?_;rintro e w30 ⟨rfl,hb⟩;refine⟨_,rfl,?_⟩;replace BK304:=zB BK304.out hb;replace HB:=zS HB.out hb;(try clear hb);have hcz31_0:=zc12_0 BK304.out;have hcz31_4:=zc12_4 BK304.out;have hcz31_8:=zc12_8 BK304.out));go_meet;case rel=>exact⟨_,(true),(by rfl),H',⟨by omega⟩,⟨by exact BK304.out⟩,⟨HB.out⟩⟩
      ·have H':=zA H;clear H;obtain⟨_,_,_,_,_,_,_,_,_,_,_,_⟩:=zd12 BK304.out;go_wp2_with (((with_reducible refine gate_callee (f:=115) rfl ?_);refine zY (some 4) Try.func115 (triples_right.calls _ _ _ _ _ _ _ _ _ _ _ _ _ _ _ A4.out) ?_;rintro e w33 ⟨rfl,hb⟩;refine⟨_,rfl,?_⟩;replace BK304:=zB BK304.out hb;replace HB:=zS HB.out hb;(try clear hb);have hcz34_0:=zc12_0 BK304.out;have hcz34_4:=zc12_4 BK304.out;have hcz34_8:=zc12_8 BK304.out));go_meet;case rel=>exact⟨_,((a0_8==3)),(by rfl),H',⟨by omega⟩,⟨by exact BK304.out⟩,⟨HB.out⟩⟩
     ·obtain⟨c35b1,H⟩|⟨c35b1,H⟩:=zn H
      ·obtain⟨c36b0,H⟩|⟨c36b0,H⟩:=zb H
       ·have H':=zA H;clear H;obtain⟨_,_,_,_,_,_,_,_,_,_,_,_⟩:=zd12 BK304.out;go_wp2_with (((with_reducible refine gate_callee (f:=115) rfl ?_);refine zY (some 4) Try.func115 (triples_right.calls _ _ _ _ _ _ _ _ _ _ _ _ _ _ _ A4.out) ?_;rintro e w38 ⟨rfl,hb⟩;refine⟨_,rfl,?_⟩;replace BK304:=zB BK304.out hb;replace HB:=zS HB.out hb;(try clear hb);have hcz39_0:=zc12_0 BK304.out;have hcz39_4:=zc12_4 BK304.out;have hcz39_8:=zc12_8 BK304.out));go_meet;case rel=>exact⟨_,(true),(by rfl),H',⟨by omega⟩,⟨by exact BK304.out⟩,⟨HB.out⟩⟩
       ·have H':=zA H;clear H;obtain⟨_,_,_,_,_,_,_,_,_,_,_,_⟩:=zd12 BK304.out;go_wp2_with (((with_reducible refine gate_callee (f:=115) rfl ?_);refine zY (some 4) Try.func115 (triples_right.calls _ _ _ _ _ _ _ _ _ _ _ _ _ _ _ A4.out) ?_;rintro e w41 ⟨rfl,hb⟩;refine⟨_,rfl,?_⟩;replace BK304:=zB BK304.out hb;replace HB:=zS HB.out hb;(try clear hb);have hcz42_0:=zc12_0 BK304.out;have hcz42_4:=zc12_4 BK304.out;have hcz42_8:=zc12_8 BK304.out));go_meet;case rel=>exact⟨_,((a0_8==3)),(by rfl),H',⟨by omega⟩,⟨by exact BK304.out⟩,⟨HB.out⟩⟩
      ·have H':=zA H;clear H;obtain⟨_,_,_,_,_,_,_,_,_,_,_,_⟩:=zd12 BK304.out;go_wp2_with (((with_reducible refine gate_callee (f:=115) rfl ?_);refine zY (some 4) Try.func115 (triples_right.calls _ _ _ _ _ _ _ _ _ _ _ _ _ _ _ A4.out) ?_;rintro e w44 ⟨rfl,hb⟩;refine⟨_,rfl,?_⟩;replace BK304:=zB BK304.out hb;replace HB:=zS HB.out hb;(try clear hb);have hcz45_0:=zc12_0 BK304.out;have hcz45_4:=zc12_4 BK304.out));go_meet;case rel=>exact⟨_,(true),(by rfl),H',⟨by omega⟩,⟨by exact BK304.out⟩,⟨HB.out⟩⟩
    ·have H':=zA H;clear H;obtain⟨_,_,_,_,_,_,_,_,_,_,_,_⟩:=zd12 BK304.out;go_wp2_with (((with_reducible refine gate_callee (f:=115) rfl ?_);refine zY (some 4) Try.func115 (triples_right.calls _ _ _ _ _ _ _ _ _ _ _ _ _ _ _ A4.out) ?_;rintro e w47 ⟨rfl,hb⟩;refine⟨_,rfl,?_⟩;replace BK304:=zB BK304.out hb;replace HB:=zS HB.out hb;(try clear hb);have hcz48_0:=zc12_0 BK304.out));go_meet;case rel=>exact⟨_,(true),(by rfl),H',⟨by omega⟩,⟨by exact BK304.out⟩,⟨HB.out⟩⟩
  ·replace c5:=Bool.eq_false_iff.mpr c5;subst c5;rw[if_neg (show ¬(false=true)by decide)]at H;have H':=zA H;clear H;obtain⟨_,_,_,_,_,_,_,_,_,_,_,_⟩:=zd12 BK304.out;go_wp2_with (((with_reducible refine gate_callee (f:=115) rfl ?_);refine zY (some 4) Try.func115 (triples_right.calls _ _ _ _ _ _ _ _ _ _ _ _ _ _ _ A4.out) ?_;rintro e w50 ⟨rfl,hb⟩;refine⟨_,rfl,?_⟩;replace BK304:=zB BK304.out hb;replace HB:=zS HB.out hb;(try clear hb)));go_meet;case rel=>exact⟨_,(true),(by rfl),H',⟨by omega⟩,⟨by exact BK304.out⟩,⟨HB.out⟩⟩
 case rest=>
  clear HC2;obtain⟨kq,x41_1,rfl,HA,HJ1,BK304,HB⟩:=hcut;cases kq with
  |zero=>exact absurd HA.out (by simp[triples_CheckPattern.j0])
  |succ kj1=>
   have H:=HA.out;clear HA;simp only[triples_CheckPattern.j0]at H;by_cases c51:x41_1=true
   ·subst c51;rw[if_pos rfl]at H;obtain rfl:=Option.some.inj H;go_wp2;go_ret;exact⟨by rfl,HB.out⟩
   ·replace c51:=Bool.eq_false_iff.mpr c51;subst c51;rw[if_neg (show ¬(false=true)by decide)]at H;obtain rfl:=Option.some.inj H;go_wp2;go_ret;exact⟨by rfl,HB.out⟩
end Go.Proofs.Ytcfoebkbahpnaaa.L

namespace Go.Proofs.Ytcfoebkbahpnaaa.L
open Go.RowKit Go.Proofs.YtcfoebkbahpnaaaW.PrintWords Go.Proofs.YtcfoebkbahpnaaaW.PrintLast Go.Proofs.YtcfoebkbahpnaaaW.PrintMore
attribute [local go_sem] max2_int min2_int max_two min_two max_three min_three max_four min_four
set_option linter.unusedVariables false
set_option maxHeartbeats 8000000
set_option maxRecDepth 100000
set_option linter.unusedSimpArgs false
def scope_basic.l0 : Nat → List (S53) → List (S53) → Int → Int → Option (Bool)
  | 0, _, _, _, _ => none
  | k + 1, x0, x5, x6, x7 => if x7 < x6 then (if 0 ≤ x7 then (if x7 < (x5.length : Int) then ((triples_CheckPattern.f k ((rd_T53 x5 x7).f0.f0) ((rd_T53 x5 x7).f0.f1) ((rd_T53 x5 x7).f0.f2) ((rd_T53 x5 x7).f0.f3) ((rd_T53 x5 x7).f1.f0) ((rd_T53 x5 x7).f1.f1) ((rd_T53 x5 x7).f1.f2) ((rd_T53 x5 x7).f1.f3) ((rd_T53 x5 x7).f2.f0) ((rd_T53 x5 x7).f2.f1) ((rd_T53 x5 x7).f2.f2) ((rd_T53 x5 x7).f2.f3)).bind fun t308 => (if t308 = 0 then (scope_basic.l0 k x0 x5 x6 (wrap64 (x7 + 1))) else (some false))) else (none)) else (none)) else (some (decide ((x0.length : Int) ≤ 32)))
def scope_basic.f (k : Nat) (l0 : List (S53)) : Option (Bool) := scope_basic.l0 k l0 l0 (l0.length : Int) 0
theorem scope_basic.calls (k:Nat) (A0:Option Addr) (c0:Nat) (l0:List (S53)) (r:Bool) (w:World) (hr0:Kd.C k53 w A0 l0.length l0) (hc0:l0.length≤c0) (h:scope_basic.f k l0=some r):
 Calls Try.prog 83 #[.slice A0 l0.length c0] w fun e w'=>e= .returned (.bool r)∧Below w.heap.size w w':=by
 have HR0:=zA hr0;have HC0:=zA hc0;clear hr0 hc0;have HB:=zA (Below.refl w.heap.size w);have H:(scope_basic.l0 k l0 l0 (l0.length:Int) 0)=some r:=h;clear h;have H':=zA H;clear H;go_enter Try.func83,Try.ntmps83;go_wp2;go_loopg [7] k (fun kq v7 w'=> ∃ (x7_1:Int),v7= .int .i64 x7_1∧Aside0 (scope_basic.l0 kq l0 l0 (l0.length:Int) x7_1=some r)∧Aside0 (kq≤k)∧Aside0 (Below w.heap.size w w'));(case atStart=>exact⟨(0),(by rfl),H',⟨Nat.le_refl _⟩,⟨HB.out⟩⟩);case round=>
  clear H';obtain⟨x7_1,rfl,HA,HK1,HB⟩:=hrel;cases gk with
  |zero=>exact absurd HA.out (by simp[scope_basic.l0])
  |succ k1=>
   have H:=HA.out;clear HA;simp only[scope_basic.l0]at H;obtain⟨c2b0,H⟩|⟨c2b0,H⟩:=zj H
   ·obtain⟨c3b0,H⟩|⟨_,H⟩:=zj H
    ·obtain⟨c4b0,H⟩|⟨_,H⟩:=zj H
     ·obtain⟨t308,A5,H⟩:=zk H;obtain⟨c6b1,H⟩|⟨c6b1,H⟩:=zn H
      ·have H':=zA H;clear H;have p306:0≤(x7_1:Int):=zD;have q306:x7_1<(l0.length:Int):=zD;obtain⟨ad306,e306,hx306_0,hx306_1,hx306_2,hx306_3,hx306_4,hx306_5,hx306_6,hx306_7,hx306_8,hx306_9,hx306_10,hx306_11⟩:=at_T53 (Kd.C_below HR0.out HB.out) x7_1 p306 q306;cases e306
       replace p306:=eq_true p306;replace q306:=eq_true q306;go_wp2_with (first|((with_reducible refine gate_dst (N:=4) rfl ?_);refine zG_53_isssisssisss HB ?_;clear HB;intro gb307 w7 BK307 GW307 HB;obtain⟨_,_,_,_,_,_,_,_,_,_,_,_⟩:=zd12 BK307.out;obtain⟨_,_,_,_,_,_,_,_,_,_,_,_⟩:=zf12 BK307.out)|((with_reducible refine gate_callee (f:=104) rfl ?_);refine zY (some 12) Try.func104 (triples_CheckPattern.calls _ _ _ _ _ _ _ _ _ _ _ _ _ _ _ A5.out) ?_;rintro e w9 ⟨rfl,hb⟩;refine⟨_,rfl,?_⟩;replace BK307:=zA (blk_below (zq12 BK307.out) hb);replace HB:=zA (below_step (by repeat((with_reducible first|exact HB.out|refine below_set ?_ GW307.out))) hb);(try clear hb)));go_roundg k1;(case measure=>have:=HK1.out;omega);case rel=>exact⟨(wrap64 (x7_1+1)),(by rfl),H',⟨by have:=HK1.out;omega⟩,⟨HB.out⟩⟩
      ·obtain rfl:=Option.some.inj H;have p306:0≤(x7_1:Int):=zD;have q306:x7_1<(l0.length:Int):=zD;obtain⟨ad306,e306,hx306_0,hx306_1,hx306_2,hx306_3,hx306_4,hx306_5,hx306_6,hx306_7,hx306_8,hx306_9,hx306_10,hx306_11⟩:=at_T53 (Kd.C_below HR0.out HB.out) x7_1 p306 q306;cases e306
       replace p306:=eq_true p306;replace q306:=eq_true q306;go_wp2_with (first|((with_reducible refine gate_dst (N:=4) rfl ?_);refine zG_53_isssisssisss HB ?_;clear HB;intro gb307 w10 BK307 GW307 HB;obtain⟨_,_,_,_,_,_,_,_,_,_,_,_⟩:=zd12 BK307.out;obtain⟨_,_,_,_,_,_,_,_,_,_,_,_⟩:=zf12 BK307.out)|((with_reducible refine gate_callee (f:=104) rfl ?_);refine zY (some 12) Try.func104 (triples_CheckPattern.calls _ _ _ _ _ _ _ _ _ _ _ _ _ _ _ A5.out) ?_;rintro e w12 ⟨rfl,hb⟩;refine⟨_,rfl,?_⟩;replace BK307:=zA (blk_below (zq12 BK307.out) hb);replace HB:=zA (below_step (by repeat((with_reducible first|exact HB.out|refine below_set ?_ GW307.out))) hb);(try clear hb)));go_ret;exact⟨by rfl,HB.out⟩
     ·cases H
    ·cases H
   ·obtain rfl:=Option.some.inj H;go_wp2;go_ret;exact⟨by rfl,HB.out⟩
def slices_Index_string_string.l0 : Nat → List ByteArray → ByteArray → Int → Int → Option (Int)
  | 0, _, _, _, _ => none
  | k + 1, x0, x1, x7, x8 => if x8 < x7 then (if 0 ≤ x8 then (if x8 < (x0.length : Int) then (if x1.toList = (rdOf ByteArray.empty x0 x8).toList then (some x8) else (slices_Index_string_string.l0 k x0 x1 x7 (wrap64 (x8 + 1)))) else (none)) else (none)) else (some (-1))
def slices_Index_string_string.f (k : Nat) (l0 : List ByteArray) (a1 : ByteArray) : Option (Int) := slices_Index_string_string.l0 k l0 a1 (l0.length : Int) 0
theorem slices_Index_string_string.calls (k:Nat) (A0:Option Addr) (c0:Nat) (l0:List ByteArray) (a1:ByteArray) (r:Int) (w:World) (hr0:Kd.C Kd.string w A0 l0.length l0) (hc0:l0.length≤c0) (h:slices_Index_string_string.f k l0 a1=some r):
 Calls Try.prog 40 #[.slice A0 l0.length c0,.string a1] w fun e w'=>e= .returned (.int .i64 r)∧Drawn0 w w':=by
 have HR0:=zA hr0;have HC0:=zA hc0;clear hr0 hc0;have H:(slices_Index_string_string.l0 k l0 a1 (l0.length:Int) 0)=some r:=h;clear h;have H':=zA H;clear H;go_enter Try.func40,Try.ntmps40;go_wp2;go_loopg [8] k (fun kq v8 w'=> ∃ (x8_1:Int),v8= .int .i64 x8_1∧Aside0 (slices_Index_string_string.l0 kq l0 a1 (l0.length:Int) x8_1=some r)∧Aside0 (kq≤k)∧Drawn0 w w');(case atStart=>exact⟨(0),(by rfl),H',⟨Nat.le_refl _⟩,by repeat(exact Drawn0.refl _)⟩);case round=>
  clear H';obtain⟨x8_1,rfl,HA,HK1,⟨m1,rfl⟩⟩:=hrel;cases gk with
  |zero=>exact absurd HA.out (by simp[slices_Index_string_string.l0])
  |succ k1=>
   have H:=HA.out;clear HA;simp only[slices_Index_string_string.l0]at H;obtain⟨c3b0,H⟩|⟨c3b0,H⟩:=zj H
   ·obtain⟨c4b0,H⟩|⟨_,H⟩:=zj H
    ·obtain⟨c5b0,H⟩|⟨_,H⟩:=zj H
     ·obtain⟨c6b0,H⟩|⟨c6b0,H⟩:=zb H
      ·obtain rfl:=Option.some.inj H;have p309:0≤(x8_1:Int):=zD;have q309:x8_1<(l0.length:Int):=zD;obtain⟨ad309,e309,hx309_0⟩:=Kd.at_string HR0.out x8_1 p309 q309;cases e309
       replace p309:=eq_true p309;replace q309:=eq_true q309;go_wp2;go_ret;exact⟨by rfl,by repeat(first|exact Drawn0.refl _|apply Drawn0.step)⟩
      ·have H':=zA H;clear H;have p309:0≤(x8_1:Int):=zD;have q309:x8_1<(l0.length:Int):=zD;obtain⟨ad309,e309,hx309_0⟩:=Kd.at_string HR0.out x8_1 p309 q309;cases e309
       replace p309:=eq_true p309;replace q309:=eq_true q309;go_wp2;go_roundg k1;(case measure=>have:=HK1.out;omega);case rel=>exact⟨(wrap64 (x8_1+1)),(by rfl),H',⟨by have:=HK1.out;omega⟩,by repeat(first|exact Drawn0.refl _|apply Drawn0.step)⟩
     ·cases H
    ·cases H
   ·obtain rfl:=Option.some.inj H;go_wp2;go_ret;exact⟨by rfl,by repeat(first|exact Drawn0.refl _|apply Drawn0.step)⟩
def slices_Contains_string_string.f (k : Nat) (l0 : List ByteArray) (a1 : ByteArray) : Option (Bool) := (slices_Index_string_string.f k l0 a1).bind fun t310 => (some (decide (t310 ≥ 0)))
theorem slices_Contains_string_string.calls (k:Nat) (A0:Option Addr) (c0:Nat) (l0:List ByteArray) (a1:ByteArray) (r:Bool) (w:World) (hr0:Kd.C Kd.string w A0 l0.length l0) (hc0:l0.length≤c0) (h:slices_Contains_string_string.f k l0 a1=some r):
 Calls Try.prog 26 #[.slice A0 l0.length c0,.string a1] w fun e w'=>e= .returned (.bool r)∧Drawn0 w w':=by
 have HR0:=zA hr0;have HC0:=zA hc0;clear hr0 hc0;have H:((slices_Index_string_string.f k l0 a1).bind fun t310=>(some (decide (t310≥0))))=some r:=h;clear h;obtain⟨t310,A3,H⟩:=zk H;obtain rfl:=Option.some.inj H;go_enter Try.func26,Try.ntmps26;go_wp2_with (((with_reducible refine gate_callee (f:=40) rfl ?_);refine zX (some 7) Try.func40 #[.slice A0 l0.length c0,.string a1] ?_;(with_reducible refine(slices_Index_string_string.calls k _ _ l0 a1 t310 _ ?side1 ?side2 A3.out).mono ?_);(case side1=>repeat(exact HR0.out));(case side2=>exact HC0.out);rintro e w' ⟨rfl,⟨nd,rfl⟩⟩;refine⟨_,rfl,?_⟩));go_ret;exact⟨by rfl,by repeat(first|exact Drawn0.refl _|apply Drawn0.step)⟩
end Go.Proofs.Ytcfoebkbahpnaaa.L
