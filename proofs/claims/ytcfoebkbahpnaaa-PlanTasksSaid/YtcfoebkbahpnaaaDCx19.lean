import Derived.Test.YtcfoebkbahpnaaaDCx0
import Derived.Test.YtcfoebkbahpnaaaDCx17
import Derived.Test.YtcfoebkbahpnaaaDCx18
namespace Go.Proofs.Ytcfoebkbahpnaaa.L
open Go.RowKit Go.Proofs.YtcfoebkbahpnaaaW.PrintWords Go.Proofs.YtcfoebkbahpnaaaW.PrintLast Go.Proofs.YtcfoebkbahpnaaaW.PrintMore
attribute [local go_sem] max2_int min2_int max_two min_two max_three min_three max_four min_four
set_option linter.unusedVariables false
set_option maxHeartbeats 8000000
set_option maxRecDepth 100000
set_option linter.unusedSimpArgs false
mutual
def legationref07_Needs.j0 : Nat → Int → Bool → Option (Int)
  | 0, _, _ => none
  | k + 1, x4, x5 => if x5 = true then (some 0) else (if x4 = 7 then (legationref07_Needs.j1 k x4 (x4 == 7)) else (if x4 = 8 then (legationref07_Needs.j1 k x4 (x4 == 8)) else (legationref07_Needs.j1 k x4 (x4 == 9))))
def legationref07_Needs.j1 : Nat → Int → Bool → Option (Int)
  | 0, _, _ => none
  | k + 1, x4, x8 => if x8 = true then (some 1) else (if x4 = 3 then (some 2) else (if x4 = 4 then (some 2) else (if x4 = 5 then (some 2) else (if x4 = 6 then (some 2) else (some (-1))))))
end
def legationref07_Needs.f (k : Nat) (a0_0 : Int) (l0_1 : List (S53)) (l0_2 : List ByteArray) (l0_3 : List (List (S50))) (l0_4 : List (S112)) (a0_5 : ByteArray) (a0_6 : Bool) : Option (Int) := if a0_0 = 1 then (legationref07_Needs.j0 k a0_0 (a0_0 == 1)) else (legationref07_Needs.j0 k a0_0 (a0_0 == 2))
theorem legationref07_Needs.calls (k:Nat) (a0_0:Int) (A0_1:Option Addr) (c0_1:Nat) (l0_1:List (S53)) (A0_2:Option Addr) (c0_2:Nat) (l0_2:List ByteArray) (A0_3:Option Addr) (c0_3:Nat) (l0_3:List (List (S50))) (A0_4:Option Addr) (c0_4:Nat) (l0_4:List (S112)) (a0_5:ByteArray) (a0_6:Bool) (r:Int) (w:World) (hr0_1:Kd.C k53 w A0_1 l0_1.length l0_1) (hc0_1:l0_1.length≤c0_1) (hr0_2:Kd.C Kd.string w A0_2 l0_2.length l0_2) (hc0_2:l0_2.length≤c0_2) (hr0_3:Kd.C (Kd.slice 50 k50) w A0_3 l0_3.length l0_3) (hc0_3:l0_3.length≤c0_3) (hr0_4:Kd.C k112 w A0_4 l0_4.length l0_4) (hc0_4:l0_4.length≤c0_4) (h:legationref07_Needs.f k a0_0 l0_1 l0_2 l0_3 l0_4 a0_5 a0_6=some r):
 Calls Try.prog 34 #[.agg #[.int .i64 a0_0,.slice A0_1 l0_1.length c0_1,.slice A0_2 l0_2.length c0_2,.slice A0_3 l0_3.length c0_3,.slice A0_4 l0_4.length c0_4,.string a0_5,.bool a0_6]] w fun e w'=>e= .returned (.int .i64 r)∧Below w.heap.size w w':=by
 have HR0_1:=zA hr0_1;have HC0_1:=zA hc0_1;clear hr0_1 hc0_1;have HR0_2:=zA hr0_2;have HC0_2:=zA hc0_2;clear hr0_2 hc0_2;have HR0_3:=zA hr0_3;have HC0_3:=zA hc0_3;clear hr0_3 hc0_3;have HR0_4:=zA hr0_4;have HC0_4:=zA hc0_4;clear hr0_4 hc0_4;have HB:=zA (Below.refl w.heap.size w);have H:(if a0_0=1 then(legationref07_Needs.j0 k a0_0 (a0_0==1))else(legationref07_Needs.j0 k a0_0 (a0_0==2)))=some r:=h;clear h;have HC2:=zA H;clear H;go_enter Try.func34,Try.ntmps34;go_upto_if 5 with (((with_reducible refine gate_dst (N:=1) rfl ?_);refine zE #[.int .i64 a0_0,.slice A0_1 l0_1.length c0_1,.slice A0_2 l0_2.length c0_2,.slice A0_3 l0_3.length c0_3,.slice A0_4 l0_4.length c0_4,.string a0_5,.bool a0_6] 45 ?_;intro gb203 hg w3 hbox hb;have BK203:=zA hbox;have GW203:=zZ HB.out hg;replace HB:=zS HB.out hb;clear hb hbox hg;have hcz4_0:=zc7_0 BK203.out))
 go_cut [5] (fun v5 wc=> ∃ (kq:Nat) (x5_1:Bool),v5= .bool x5_1∧Aside0 (legationref07_Needs.j0 kq a0_0 x5_1=some r)∧Aside0 (kq≤k)∧Aside0 (wc.heap[gb203]? =some (.cells #[.int .i64 a0_0,(.slice A0_1 l0_1.length c0_1),(.slice A0_2 l0_2.length c0_2),(.slice A0_3 l0_3.length c0_3),(.slice A0_4 l0_4.length c0_4),.string a0_5,.bool a0_6] 45 (0,0)))∧Aside0 (Below w.heap.size w wc));case first=>
  have H:=HC2.out;clear HC2;obtain⟨c5b0,H⟩|⟨c5b0,H⟩:=zb H
  ·(rw[c5b0]);have H':=zA H;clear H;go_wp2;go_meet;case rel=>exact⟨_,((a0_0==1)),(by(simp[*];done)),H',⟨by omega⟩,⟨by exact BK203.out⟩,⟨HB.out⟩⟩
  ·(rw[c5b0]);have H':=zA H;clear H;go_wp2;go_meet;case rel=>exact⟨_,((a0_0==2)),(by rfl),H',⟨by omega⟩,⟨by exact BK203.out⟩,⟨HB.out⟩⟩
 case rest=>
  clear HC2;(try clear hcz4_0);obtain⟨kq,x5_1,rfl,HA,HJ1,BK203,HB⟩:=hcut;cases kq with
  |zero=>exact absurd HA.out (by simp[legationref07_Needs.j0])
  |succ kj1=>
   have H:=HA.out;clear HA;simp only[legationref07_Needs.j0]at H;by_cases c6:x5_1=true
   ·subst c6;rw[if_pos rfl]at H;obtain rfl:=Option.some.inj H;go_wp2;go_ret;exact⟨by rfl,HB.out⟩
   ·replace c6:=Bool.eq_false_iff.mpr c6;subst c6;rw[if_neg (show ¬(false=true)by decide)]at H;have HC7:=zA H;clear H;go_upto_if 8 with (fail)
    go_cut [8] (fun v8 wc=> ∃ (kq:Nat) (x8_6:Bool),v8= .bool x8_6∧Aside0 (legationref07_Needs.j1 kq a0_0 x8_6=some r)∧Aside0 (kq≤kj1)∧Aside0 (wc.heap[gb203]? =some (.cells #[.int .i64 a0_0,(.slice A0_1 l0_1.length c0_1),(.slice A0_2 l0_2.length c0_2),(.slice A0_3 l0_3.length c0_3),(.slice A0_4 l0_4.length c0_4),.string a0_5,.bool a0_6] 45 (0,0)))∧Aside0 (Below w.heap.size w wc));case first=>
     have H:=HC7.out;clear HC7;obtain⟨c8b0,H⟩|⟨c8b0,H⟩:=zb H
     ·(rw[c8b0]);have H':=zA H;clear H;go_wp2;go_meet;case rel=>exact⟨_,((a0_0==7)),(by(simp[*];done)),H',⟨by have:=HJ1.out;omega⟩,⟨by exact BK203.out⟩,⟨HB.out⟩⟩
     ·(rw[c8b0]);obtain⟨c9b0,H⟩|⟨c9b0,H⟩:=zb H
      ·have H':=zA H;clear H;go_wp2;go_meet;case rel=>exact⟨_,((a0_0==8)),(by(simp[*];done)),H',⟨by have:=HJ1.out;omega⟩,⟨by exact BK203.out⟩,⟨HB.out⟩⟩
      ·have H':=zA H;clear H;go_wp2;go_meet;case rel=>exact⟨_,((a0_0==9)),(by rfl),H',⟨by have:=HJ1.out;omega⟩,⟨by exact BK203.out⟩,⟨HB.out⟩⟩
    case rest=>
     clear HC7;obtain⟨kq,x8_6,rfl,HA,HJ6,BK203,HB⟩:=hcut;cases kq with
     |zero=>exact absurd HA.out (by simp[legationref07_Needs.j1])
     |succ kj6=>
      have H:=HA.out;clear HA;simp only[legationref07_Needs.j1]at H;by_cases c10:x8_6=true
      ·subst c10;rw[if_pos rfl]at H;obtain rfl:=Option.some.inj H;go_wp2;go_ret;exact⟨by rfl,HB.out⟩
      ·replace c10:=Bool.eq_false_iff.mpr c10;subst c10;rw[if_neg (show ¬(false=true)by decide)]at H;obtain⟨c11b0,H⟩|⟨c11b0,H⟩:=zb H
       ·obtain rfl:=Option.some.inj H;go_wp2;go_ret;exact⟨by rfl,HB.out⟩
       ·obtain⟨c12b0,H⟩|⟨c12b0,H⟩:=zb H
        ·obtain rfl:=Option.some.inj H;go_wp2;go_ret;exact⟨by rfl,HB.out⟩
        ·obtain⟨c13b0,H⟩|⟨c13b0,H⟩:=zb H
         ·obtain rfl:=Option.some.inj H;go_wp2;go_ret;exact⟨by rfl,HB.out⟩
         ·obtain⟨c14b0,H⟩|⟨c14b0,H⟩:=zb H
          ·obtain rfl:=Option.some.inj H;go_wp2;go_ret;exact⟨by rfl,HB.out⟩
          ·obtain rfl:=Option.some.inj H;go_wp2;go_ret;exact⟨by rfl,HB.out⟩
def legationref01_IsName.f (k : Nat) (a0 : ByteArray) : Option (Bool) := if (a0.size : Int) ≥ 1 then (if (a0.size : Int) ≤ 32 then ((legationref01_All.f k a0 3).bind fun t204 => (if t204 = true then (if 0 < (a0.size : Int) then ((legationref01_Between.f (bt a0 0) 97 122).bind fun t205 => (if t205 = true then (some true) else ((legationref01_Between.f (bt a0 0) 65 90).bind fun t206 => (some t206)))) else (none)) else (some false))) else (some false)) else (some false)
theorem legationref01_IsName.calls (k:Nat) (a0:ByteArray) (r:Bool) (w:World) (h:legationref01_IsName.f k a0=some r):
 Calls Try.prog 72 #[.string a0] w fun e w'=>e= .returned (.bool r)∧Drawn0 w w':=by
 have H:(if(a0.size:Int)≥1 then(if(a0.size:Int)≤32 then((legationref01_All.f k a0 3).bind fun t204=>(if t204=true then(if 0<(a0.size:Int)then((legationref01_Between.f (bt a0 0) 97 122).bind fun t205=>(if t205=true then(some true)else((legationref01_Between.f (bt a0 0) 65 90).bind fun t206=>(some t206))))else(none))else(some false)))else(some false))else(some false))=some r:=h;clear h;by_cases c2:(a0.size:Int)≥1
 ·rw[if_pos c2]at H;have c2b0:decide (1≤(a0.size:Int))=true:=decide_eq_true c2;clear c2;obtain⟨c3b0,H⟩|⟨c3b0,H⟩:=zj H
  ·obtain⟨t204,A4,H⟩:=zk H;by_cases c5:t204=true
   ·subst c5;rw[if_pos rfl]at H;obtain⟨c6b0,H⟩|⟨_,H⟩:=zj H
    ·obtain⟨t205,A8,H⟩:=zk H;by_cases c9:t205=true
     ·subst c9;rw[if_pos rfl]at H;obtain rfl:=Option.some.inj H;go_enter Try.func72,Try.ntmps72;go_wp2_with (first|(go_at_call 42;(with_reducible refine(legationref01_All.calls k a0 3 true _ A4.out).mono ?_);rintro e w' ⟨rfl,⟨nd,rfl⟩⟩;have q7:0<a0.size:=(by have:(0:Int)<(a0.size:Int):=zD;omega);have hx7: ∀ h:0<a0.size,((a0[0]'h).toNat:Int)=bt a0 0:=bt_at a0 0;have qi7:(0<(a0.size:Int))=True:=eq_true (zD);replace q7:=eq_true q7)|(go_at_call 65;(with_reducible refine(legationref01_Between.calls (bt a0 0) 97 122 true _ A8.out).mono ?_);rintro e w' ⟨rfl,⟨nd,rfl⟩⟩));go_ret;exact⟨by rfl,by repeat(first|exact Drawn0.refl _|apply Drawn0.step)⟩
     ·replace c9:=Bool.eq_false_iff.mpr c9;subst c9;rw[if_neg (show ¬(false=true)by decide)]at H;obtain⟨t206,A11,H⟩:=zk H;obtain rfl:=Option.some.inj H;go_enter Try.func72,Try.ntmps72;go_wp2_with (first|(go_at_call 42;(with_reducible refine(legationref01_All.calls k a0 3 true _ A4.out).mono ?_);rintro e w' ⟨rfl,⟨nd,rfl⟩⟩;have q7:0<a0.size:=(by have:(0:Int)<(a0.size:Int):=zD;omega);have hx7: ∀ h:0<a0.size,((a0[0]'h).toNat:Int)=bt a0 0:=bt_at a0 0;have qi7:(0<(a0.size:Int))=True:=eq_true (zD);replace q7:=eq_true q7)|(go_at_call 65;(with_reducible refine(legationref01_Between.calls (bt a0 0) 97 122 false _ A8.out).mono ?_);rintro e w' ⟨rfl,⟨nd,rfl⟩⟩;have q10:0<a0.size:=(by have:(0:Int)<(a0.size:Int):=zD;omega);have hx10: ∀ h:0<a0.size,((a0[0]'h).toNat:Int)=bt a0 0:=bt_at a0 0;have qi10:(0<(a0.size:Int))=True:=eq_true (zD);replace q10:=eq_true q10)|(go_at_call 65;(with_reducible refine(legationref01_Between.calls (bt a0 0) 65 90 t206 _ A11.out).mono ?_);rintro e w' ⟨rfl,⟨nd,rfl⟩⟩));go_ret;exact⟨by rfl,by repeat(first|exact Drawn0.refl _|apply Drawn0.step)⟩
    ·cases H
   ·replace c5:=Bool.eq_false_iff.mpr c5;subst c5;rw[if_neg (show ¬(false=true)by decide)]at H;obtain rfl:=Option.some.inj H;go_enter Try.func72,Try.ntmps72;go_wp2_with ((go_at_call 42;(with_reducible refine(legationref01_All.calls k a0 3 false _ A4.out).mono ?_);rintro e w' ⟨rfl,⟨nd,rfl⟩⟩));go_ret;exact⟨by rfl,by repeat(first|exact Drawn0.refl _|apply Drawn0.step)⟩
  ·obtain rfl:=Option.some.inj H;go_enter Try.func72,Try.ntmps72;go_wp2;go_ret;exact⟨by rfl,by repeat(exact Drawn0.refl _)⟩
 ·rw[if_neg c2]at H;have c2b0:decide (1≤(a0.size:Int))=false:=decide_eq_false c2;clear c2;obtain rfl:=Option.some.inj H;go_enter Try.func72,Try.ntmps72;go_wp2;go_ret;exact⟨by rfl,by repeat(exact Drawn0.refl _)⟩
end Go.Proofs.Ytcfoebkbahpnaaa.L
