import Derived.Test.YtcfoebkbahpnaaaDCx0
import Derived.Test.YtcfoebkbahpnaaaDCx17
namespace Go.Proofs.Ytcfoebkbahpnaaa.L
open Go.RowKit Go.Proofs.YtcfoebkbahpnaaaW.PrintWords Go.Proofs.YtcfoebkbahpnaaaW.PrintLast Go.Proofs.YtcfoebkbahpnaaaW.PrintMore
attribute [local go_sem] max2_int min2_int max_two min_two max_three min_three max_four min_four
set_option linter.unusedVariables false
set_option maxHeartbeats 8000000
set_option maxRecDepth 100000
set_option linter.unusedSimpArgs false
mutual
def term_named.j0 : Nat → ByteArray → Bool → Option (Int)
  | 0, _, _ => none
  | k + 1, x0, x11 => if x11 = true then (some 0) else (term_named.l0 k x0 1)
def term_named.l0 : Nat → ByteArray → Int → Option (Int)
  | 0, _, _ => none
  | k + 1, x0, x3 => if x3 < (x0.size : Int) then (if x3 < 32 then (if 0 ≤ x3 then ((term_letter.f (bt x0 x3)).bind fun t284 => (if t284 = true then (term_named.l0 k x0 (wrap64 (x3 + 1))) else ((term_digit.f (bt x0 x3)).bind fun t285 => (if t285 = true then (term_named.l0 k x0 (wrap64 (x3 + 1))) else (if (bt x0 x3) = 95 then (term_named.l0 k x0 (wrap64 (x3 + 1))) else (some x3)))))) else (none)) else (some x3)) else (some x3)
end
def term_named.f (k : Nat) (a0 : ByteArray) : Option (Int) := if a0.toList = ([] : List UInt8) then (term_named.j0 k a0 true) else (if 0 < (a0.size : Int) then ((term_letter.f (bt a0 0)).bind fun t283 => (term_named.j0 k a0 (!t283))) else (none))
theorem term_named.calls (k:Nat) (a0:ByteArray) (r:Int) (w:World) (h:term_named.f k a0=some r):
 Calls Try.prog 68 #[.string a0] w fun e w'=>e= .returned (.int .i64 r)∧Drawn0 w w':=by
 have H:(if a0.toList=([]:List UInt8)then(term_named.j0 k a0 true)else(if 0<(a0.size:Int)then((term_letter.f (bt a0 0)).bind fun t283=>(term_named.j0 k a0 (!t283)))else(none)))=some r:=h;clear h;have HC2:=zA H;clear H;go_enter Try.func68,Try.ntmps68;go_upto_region 1 with (fail)
 go_cut [11] (fun v11 wc=> ∃ (kq:Nat) (x11_1:Bool),v11= .bool x11_1∧Aside0 (term_named.j0 kq a0 x11_1=some r)∧Aside0 (kq≤k)∧Drawn0 w wc);case first=>
  have H:=HC2.out;clear HC2;obtain⟨c3b0,H⟩|⟨c3b0,H⟩:=zb H
  ·have H':=zA H;clear H;go_wp2;go_meet;case rel=>exact⟨_,(true),(by rfl),H',⟨by omega⟩,by repeat(exact Drawn0.refl _)⟩
  ·obtain⟨c4b0,H⟩|⟨_,H⟩:=zj H
   ·obtain⟨t283,A6,H⟩:=zk H;have H':=zA H;clear H;have q5:0<a0.size:=(by have:(0:Int)<(a0.size:Int):=zD;omega);have hx5: ∀ h:0<a0.size,((a0[0]'h).toNat:Int)=bt a0 0:=bt_at a0 0;have qi5:(0<(a0.size:Int))=True:=eq_true (zD);replace q5:=eq_true q5;go_wp2_with ((go_at_call 90;(with_reducible refine(term_letter.calls (bt a0 0) t283 _ A6.out).mono ?_);rintro e w' ⟨rfl,⟨nd,rfl⟩⟩));go_meet;case rel=>exact⟨_,(!t283),(by rfl),H',⟨by omega⟩,by repeat(first|exact Drawn0.refl _|apply Drawn0.step)⟩
   ·cases H
 case rest=>
  clear HC2;obtain⟨kq,x11_1,rfl,HA,HJ1,⟨mc1,rfl⟩⟩:=hcut;cases kq with
  |zero=>exact absurd HA.out (by simp[term_named.j0])
  |succ kj1=>
   have H:=HA.out;clear HA;simp only[term_named.j0]at H;by_cases c7:x11_1=true
   ·subst c7;rw[if_pos rfl]at H;obtain rfl:=Option.some.inj H;go_wp2;go_ret;exact⟨by rfl,by repeat(first|exact Drawn0.refl _|apply Drawn0.step)⟩
   ·replace c7:=Bool.eq_false_iff.mpr c7;subst c7;rw[if_neg (show ¬(false=true)by decide)]at H;have H':=zA H;clear H;go_wp2;go_loopg [3] kj1 (fun kq v3 w'=> ∃ (x3_2:Int),v3= .int .i64 x3_2∧Aside0 (term_named.l0 kq a0 x3_2=some r)∧Aside0 (kq≤kj1)∧Drawn0 w w');(case atStart=>exact⟨(1),(by rfl),H',⟨Nat.le_refl _⟩,by repeat(first|exact Drawn0.refl _|apply Drawn0.step)⟩);case round=>
     clear H';obtain⟨x3_2,rfl,HA,HK2,⟨m2,rfl⟩⟩:=hrel;cases gk with
     |zero=>exact absurd HA.out (by simp[term_named.l0])
     |succ k2=>
      have H:=HA.out;clear HA;simp only[term_named.l0]at H;obtain⟨c8b0,H⟩|⟨c8b0,H⟩:=zj H
      ·obtain⟨c9b0,H⟩|⟨c9b0,H⟩:=zj H
       ·obtain⟨c10b0,H⟩|⟨_,H⟩:=zj H
        ·obtain⟨t284,A12,H⟩:=zk H;by_cases c13:t284=true
         ·subst c13;rw[if_pos rfl]at H;have H':=zA H;clear H;have p11:0≤(x3_2:Int):=zD;have q11:x3_2<(a0.size:Int):=zD;have hx11:=bt_at a0 x3_2;replace p11:=eq_true p11;replace q11:=eq_true q11;go_wp2_with ((go_at_call 90;(with_reducible refine(term_letter.calls (bt a0 x3_2) true _ A12.out).mono ?_);rintro e w' ⟨rfl,⟨nd,rfl⟩⟩));go_roundg k2;(case measure=>have:=HJ1.out;have:=HK2.out;omega);case rel=>exact⟨(wrap64 (x3_2+1)),(by rfl),H',⟨by have:=HJ1.out;have:=HK2.out;omega⟩,by repeat(first|exact Drawn0.refl _|apply Drawn0.step)⟩
         ·replace c13:=Bool.eq_false_iff.mpr c13;subst c13;rw[if_neg (show ¬(false=true)by decide)]at H;obtain⟨t285,A15,H⟩:=zk H;by_cases c16:t285=true
          ·subst c16;rw[if_pos rfl]at H;have H':=zA H;clear H;have p11:0≤(x3_2:Int):=zD;have q11:x3_2<(a0.size:Int):=zD;have hx11:=bt_at a0 x3_2;replace p11:=eq_true p11;replace q11:=eq_true q11;go_wp2_with (first|(go_at_call 90;(with_reducible refine(term_letter.calls (bt a0 x3_2) false _ A12.out).mono ?_);rintro e w' ⟨rfl,⟨nd,rfl⟩⟩;have p14:0≤(x3_2:Int):=zD;have q14:x3_2<(a0.size:Int):=zD;have hx14:=bt_at a0 x3_2;replace p14:=eq_true p14;replace q14:=eq_true q14)|(go_at_call 91;(with_reducible refine(term_digit.calls (bt a0 x3_2) true _ A15.out).mono ?_);rintro e w' ⟨rfl,⟨nd,rfl⟩⟩));go_roundg k2;(case measure=>have:=HJ1.out;have:=HK2.out;omega);case rel=>exact⟨(wrap64 (x3_2+1)),(by rfl),H',⟨by have:=HJ1.out;have:=HK2.out;omega⟩,by repeat(first|exact Drawn0.refl _|apply Drawn0.step)⟩
          ·replace c16:=Bool.eq_false_iff.mpr c16;subst c16;rw[if_neg (show ¬(false=true)by decide)]at H;obtain⟨c18b0,H⟩|⟨c18b0,H⟩:=zb H
           ·have H':=zA H;clear H;have p11:0≤(x3_2:Int):=zD;have q11:x3_2<(a0.size:Int):=zD;have hx11:=bt_at a0 x3_2;replace p11:=eq_true p11;replace q11:=eq_true q11;go_wp2_with (first|(go_at_call 90;(with_reducible refine(term_letter.calls (bt a0 x3_2) false _ A12.out).mono ?_);rintro e w' ⟨rfl,⟨nd,rfl⟩⟩;have p14:0≤(x3_2:Int):=zD;have q14:x3_2<(a0.size:Int):=zD;have hx14:=bt_at a0 x3_2;replace p14:=eq_true p14;replace q14:=eq_true q14)|(go_at_call 91;(with_reducible refine(term_digit.calls (bt a0 x3_2) false _ A15.out).mono ?_);rintro e w' ⟨rfl,⟨nd,rfl⟩⟩;have p17:0≤(x3_2:Int):=zD;have q17:x3_2<(a0.size:Int):=zD;have hx17:=bt_at a0 x3_2;replace p17:=eq_true p17;replace q17:=eq_true q17));go_roundg k2;(case measure=>have:=HJ1.out;have:=HK2.out;omega);case rel=>exact⟨(wrap64 (x3_2+1)),(by rfl),H',⟨by have:=HJ1.out;have:=HK2.out;omega⟩,by repeat(first|exact Drawn0.refl _|apply Drawn0.step)⟩
           ·obtain rfl:=Option.some.inj H;have p11:0≤(x3_2:Int):=zD;have q11:x3_2<(a0.size:Int):=zD;have hx11:=bt_at a0 x3_2;replace p11:=eq_true p11;replace q11:=eq_true q11;go_wp2_with (first|(go_at_call 90;(with_reducible refine(term_letter.calls (bt a0 x3_2) false _ A12.out).mono ?_);rintro e w' ⟨rfl,⟨nd,rfl⟩⟩;have p14:0≤(x3_2:Int):=zD;have q14:x3_2<(a0.size:Int):=zD;have hx14:=bt_at a0 x3_2;replace p14:=eq_true p14;replace q14:=eq_true q14)|(go_at_call 91;(with_reducible refine(term_digit.calls (bt a0 x3_2) false _ A15.out).mono ?_);rintro e w' ⟨rfl,⟨nd,rfl⟩⟩;have p17:0≤(x3_2:Int):=zD;have q17:x3_2<(a0.size:Int):=zD;have hx17:=bt_at a0 x3_2;replace p17:=eq_true p17;replace q17:=eq_true q17));go_ret;exact⟨by rfl,by repeat(first|exact Drawn0.refl _|apply Drawn0.step)⟩
        ·cases H
       ·obtain rfl:=Option.some.inj H;go_wp2;go_ret;exact⟨by rfl,by repeat(first|exact Drawn0.refl _|apply Drawn0.step)⟩
      ·obtain rfl:=Option.some.inj H;go_wp2;go_ret;exact⟨by rfl,by repeat(first|exact Drawn0.refl _|apply Drawn0.step)⟩
def term_IsName.f (k : Nat) (a0 : ByteArray) : Option (Bool) := if a0.toList = ([] : List UInt8) then (some false) else ((term_named.f k a0).bind fun t286 => (some (t286 == (a0.size : Int))))
theorem term_IsName.calls (k:Nat) (a0:ByteArray) (r:Bool) (w:World) (h:term_IsName.f k a0=some r):
 Calls Try.prog 44 #[.string a0] w fun e w'=>e= .returned (.bool r)∧Drawn0 w w':=by
 have H:(if a0.toList=([]:List UInt8)then(some false)else((term_named.f k a0).bind fun t286=>(some (t286==(a0.size:Int)))))=some r:=h;clear h;obtain⟨c2b0,H⟩|⟨c2b0,H⟩:=zb H
 ·obtain rfl:=Option.some.inj H;go_enter Try.func44,Try.ntmps44;go_wp2;go_ret;exact⟨by rfl,by repeat(exact Drawn0.refl _)⟩
 ·obtain⟨t286,A3,H⟩:=zk H;obtain rfl:=Option.some.inj H;go_enter Try.func44,Try.ntmps44;go_wp2_with ((go_at_call 68;(with_reducible refine(term_named.calls k a0 t286 _ A3.out).mono ?_);rintro e w' ⟨rfl,⟨nd,rfl⟩⟩));go_ret;exact⟨by rfl,by repeat(first|exact Drawn0.refl _|apply Drawn0.step)⟩
def term_isText.l0 : Nat → ByteArray → Int → Option (Bool)
  | 0, _, _ => none
  | k + 1, x0, x3 => if x3 < (x0.size : Int) then (if 0 ≤ x3 then (if (bt x0 x3) < 32 then (if (bt x0 x3) = 10 then (term_isText.l0 k x0 (wrap64 (x3 + 1))) else (if (bt x0 x3) = 9 then (term_isText.l0 k x0 (wrap64 (x3 + 1))) else (some false))) else (if (bt x0 x3) > 126 then (if (bt x0 x3) = 10 then (term_isText.l0 k x0 (wrap64 (x3 + 1))) else (if (bt x0 x3) = 9 then (term_isText.l0 k x0 (wrap64 (x3 + 1))) else (some false))) else (term_isText.l0 k x0 (wrap64 (x3 + 1))))) else (none)) else (some true)
def term_isText.f (k : Nat) (a0 : ByteArray) : Option (Bool) := if (a0.size : Int) > 4096 then (some false) else (term_isText.l0 k a0 0)
theorem term_isText.calls (k:Nat) (a0:ByteArray) (r:Bool) (w:World) (h:term_isText.f k a0=some r):
 Calls Try.prog 45 #[.string a0] w fun e w'=>e= .returned (.bool r)∧Drawn0 w w':=by
 have H:(if(a0.size:Int)>4096 then(some false)else(term_isText.l0 k a0 0))=some r:=h;clear h;by_cases c2:(a0.size:Int)>4096
 ·rw[if_pos c2]at H;have c2b0:decide (4096<(a0.size:Int))=true:=decide_eq_true c2;clear c2;obtain rfl:=Option.some.inj H;go_enter Try.func45,Try.ntmps45;go_wp2;go_ret;exact⟨by rfl,by repeat(exact Drawn0.refl _)⟩
 ·rw[if_neg c2]at H;have c2b0:decide (4096<(a0.size:Int))=false:=decide_eq_false c2;clear c2;have H':=zA H;clear H;go_enter Try.func45,Try.ntmps45;go_wp2;go_loopg [3] k (fun kq v3 w'=> ∃ (x3_1:Int),v3= .int .i64 x3_1∧Aside0 (term_isText.l0 kq a0 x3_1=some r)∧Aside0 (kq≤k)∧Drawn0 w w');(case atStart=>exact⟨(0),(by rfl),H',⟨Nat.le_refl _⟩,by repeat(exact Drawn0.refl _)⟩);case round=>
   clear H';(try clear c2b0);obtain⟨x3_1,rfl,HA,HK1,⟨m1,rfl⟩⟩:=hrel;cases gk with
   |zero=>exact absurd HA.out (by simp[term_isText.l0])
   |succ k1=>
    have H:=HA.out;clear HA;simp only[term_isText.l0]at H;obtain⟨c3b0,H⟩|⟨c3b0,H⟩:=zj H
    ·obtain⟨c4b0,H⟩|⟨_,H⟩:=zj H
     ·obtain⟨c6b0,H⟩|⟨c6b0,H⟩:=zj H
      ·obtain⟨c8b1,H⟩|⟨c8b1,H⟩:=zn H
       ·have H':=zA H;clear H;have p5:0≤(x3_1:Int):=zD;have q5:x3_1<(a0.size:Int):=zD;have hx5:=bt_at a0 x3_1;replace p5:=eq_true p5;replace q5:=eq_true q5;have p7:0≤(x3_1:Int):=zD;have q7:x3_1<(a0.size:Int):=zD;have hx7:=bt_at a0 x3_1;replace p7:=eq_true p7;replace q7:=eq_true q7;go_wp2;go_roundg k1;(case measure=>have:=HK1.out;omega);case rel=>exact⟨(wrap64 (x3_1+1)),(by rfl),H',⟨by have:=HK1.out;omega⟩,by repeat(first|exact Drawn0.refl _|apply Drawn0.step)⟩
       ·obtain⟨c10b1,H⟩|⟨c10b1,H⟩:=zn H
        ·have H':=zA H;clear H;have p5:0≤(x3_1:Int):=zD;have q5:x3_1<(a0.size:Int):=zD;have hx5:=bt_at a0 x3_1;replace p5:=eq_true p5;replace q5:=eq_true q5;have p7:0≤(x3_1:Int):=zD;have q7:x3_1<(a0.size:Int):=zD;have hx7:=bt_at a0 x3_1;replace p7:=eq_true p7;replace q7:=eq_true q7;have p9:0≤(x3_1:Int):=zD;have q9:x3_1<(a0.size:Int):=zD;have hx9:=bt_at a0 x3_1;replace p9:=eq_true p9;replace q9:=eq_true q9;go_wp2;go_roundg k1;(case measure=>have:=HK1.out;omega);case rel=>exact⟨(wrap64 (x3_1+1)),(by rfl),H',⟨by have:=HK1.out;omega⟩,by repeat(first|exact Drawn0.refl _|apply Drawn0.step)⟩
        ·obtain rfl:=Option.some.inj H;have p5:0≤(x3_1:Int):=zD;have q5:x3_1<(a0.size:Int):=zD;have hx5:=bt_at a0 x3_1;replace p5:=eq_true p5;replace q5:=eq_true q5;have p7:0≤(x3_1:Int):=zD;have q7:x3_1<(a0.size:Int):=zD;have hx7:=bt_at a0 x3_1;replace p7:=eq_true p7;replace q7:=eq_true q7;have p9:0≤(x3_1:Int):=zD;have q9:x3_1<(a0.size:Int):=zD;have hx9:=bt_at a0 x3_1;replace p9:=eq_true p9;replace q9:=eq_true q9;go_wp2;go_ret;exact⟨by rfl,by repeat(first|exact Drawn0.refl _|apply Drawn0.step)⟩
      ·by_cases c12:(bt a0 x3_1)>126
       ·rw[if_pos c12]at H;have c12b0:decide (126<(bt a0 x3_1))=true:=decide_eq_true c12;clear c12;obtain⟨c14b1,H⟩|⟨c14b1,H⟩:=zn H
        ·have H':=zA H;clear H;have p5:0≤(x3_1:Int):=zD;have q5:x3_1<(a0.size:Int):=zD;have hx5:=bt_at a0 x3_1;replace p5:=eq_true p5;replace q5:=eq_true q5;have p11:0≤(x3_1:Int):=zD;have q11:x3_1<(a0.size:Int):=zD;have hx11:=bt_at a0 x3_1;replace p11:=eq_true p11;replace q11:=eq_true q11;have p13:0≤(x3_1:Int):=zD;have q13:x3_1<(a0.size:Int):=zD;have hx13:=bt_at a0 x3_1;replace p13:=eq_true p13;replace q13:=eq_true q13;go_wp2;go_roundg k1;(case measure=>have:=HK1.out;omega);case rel=>exact⟨(wrap64 (x3_1+1)),(by rfl),H',⟨by have:=HK1.out;omega⟩,by repeat(first|exact Drawn0.refl _|apply Drawn0.step)⟩
        ·obtain⟨c16b1,H⟩|⟨c16b1,H⟩:=zn H
         ·have H':=zA H;clear H;have p5:0≤(x3_1:Int):=zD;have q5:x3_1<(a0.size:Int):=zD;have hx5:=bt_at a0 x3_1;replace p5:=eq_true p5;replace q5:=eq_true q5;have p11:0≤(x3_1:Int):=zD;have q11:x3_1<(a0.size:Int):=zD;have hx11:=bt_at a0 x3_1;replace p11:=eq_true p11;replace q11:=eq_true q11;have p13:0≤(x3_1:Int):=zD;have q13:x3_1<(a0.size:Int):=zD;have hx13:=bt_at a0 x3_1;replace p13:=eq_true p13;replace q13:=eq_true q13;have p15:0≤(x3_1:Int):=zD;have q15:x3_1<(a0.size:Int):=zD;have hx15:=bt_at a0 x3_1;replace p15:=eq_true p15;replace q15:=eq_true q15;go_wp2;go_roundg k1;(case measure=>have:=HK1.out;omega);case rel=>exact⟨(wrap64 (x3_1+1)),(by rfl),H',⟨by have:=HK1.out;omega⟩,by repeat(first|exact Drawn0.refl _|apply Drawn0.step)⟩
         ·obtain rfl:=Option.some.inj H;have p5:0≤(x3_1:Int):=zD;have q5:x3_1<(a0.size:Int):=zD;have hx5:=bt_at a0 x3_1;replace p5:=eq_true p5;replace q5:=eq_true q5;have p11:0≤(x3_1:Int):=zD;have q11:x3_1<(a0.size:Int):=zD;have hx11:=bt_at a0 x3_1;replace p11:=eq_true p11;replace q11:=eq_true q11;have p13:0≤(x3_1:Int):=zD;have q13:x3_1<(a0.size:Int):=zD;have hx13:=bt_at a0 x3_1;replace p13:=eq_true p13;replace q13:=eq_true q13;have p15:0≤(x3_1:Int):=zD;have q15:x3_1<(a0.size:Int):=zD;have hx15:=bt_at a0 x3_1;replace p15:=eq_true p15;replace q15:=eq_true q15;go_wp2;go_ret;exact⟨by rfl,by repeat(first|exact Drawn0.refl _|apply Drawn0.step)⟩
       ·rw[if_neg c12]at H;have c12b0:decide (126<(bt a0 x3_1))=false:=decide_eq_false c12;clear c12;have H':=zA H;clear H;have p5:0≤(x3_1:Int):=zD;have q5:x3_1<(a0.size:Int):=zD;have hx5:=bt_at a0 x3_1;replace p5:=eq_true p5;replace q5:=eq_true q5;have p11:0≤(x3_1:Int):=zD;have q11:x3_1<(a0.size:Int):=zD;have hx11:=bt_at a0 x3_1;replace p11:=eq_true p11;replace q11:=eq_true q11;go_wp2;go_roundg k1;(case measure=>have:=HK1.out;omega);case rel=>exact⟨(wrap64 (x3_1+1)),(by rfl),H',⟨by have:=HK1.out;omega⟩,by repeat(first|exact Drawn0.refl _|apply Drawn0.step)⟩
     ·cases H
    ·obtain rfl:=Option.some.inj H;go_wp2;go_ret;exact⟨by rfl,by repeat(first|exact Drawn0.refl _|apply Drawn0.step)⟩
mutual
def term_isLang.j0 : Nat → ByteArray → Bool → Option (Bool)
  | 0, _, _ => none
  | k + 1, x0, x10 => if x10 = true then (some false) else (term_isLang.l0 k x0 0)
def term_isLang.l0 : Nat → ByteArray → Int → Option (Bool)
  | 0, _, _ => none
  | k + 1, x0, x3 => if x3 < (x0.size : Int) then (if 0 ≤ x3 then (if (bt x0 x3) < 97 then (some false) else (if (bt x0 x3) > 122 then (some false) else (term_isLang.l0 k x0 (wrap64 (x3 + 1))))) else (none)) else (some true)
end
def term_isLang.f (k : Nat) (a0 : ByteArray) : Option (Bool) := if a0.toList = ([] : List UInt8) then (term_isLang.j0 k a0 true) else (term_isLang.j0 k a0 (decide ((a0.size : Int) > 8)))
theorem term_isLang.calls (k:Nat) (a0:ByteArray) (r:Bool) (w:World) (h:term_isLang.f k a0=some r):
 Calls Try.prog 46 #[.string a0] w fun e w'=>e= .returned (.bool r)∧Drawn0 w w':=by
 have H:(if a0.toList=([]:List UInt8)then(term_isLang.j0 k a0 true)else(term_isLang.j0 k a0 (decide ((a0.size:Int)>8))))=some r:=h;clear h;have HC2:=zA H;clear H;go_enter Try.func46,Try.ntmps46;go_upto_region 1 with (fail)
 go_cut [10] (fun v10 wc=> ∃ (kq:Nat) (x10_1:Bool),v10= .bool x10_1∧Aside0 (term_isLang.j0 kq a0 x10_1=some r)∧Aside0 (kq≤k)∧Drawn0 w wc);case first=>
  have H:=HC2.out;clear HC2;obtain⟨c3b0,H⟩|⟨c3b0,H⟩:=zb H
  ·have H':=zA H;clear H;go_wp2;go_meet;case rel=>exact⟨_,(true),(by rfl),H',⟨by omega⟩,by repeat(exact Drawn0.refl _)⟩
  ·have H':=zA H;clear H;go_wp2;go_meet;case rel=>exact⟨_,(decide ((a0.size:Int)>8)),(by rfl),H',⟨by omega⟩,by repeat(exact Drawn0.refl _)⟩
 case rest=>
  clear HC2;obtain⟨kq,x10_1,rfl,HA,HJ1,⟨mc1,rfl⟩⟩:=hcut;cases kq with
  |zero=>exact absurd HA.out (by simp[term_isLang.j0])
  |succ kj1=>
   have H:=HA.out;clear HA;simp only[term_isLang.j0]at H;by_cases c4:x10_1=true
   ·subst c4;rw[if_pos rfl]at H;obtain rfl:=Option.some.inj H;go_wp2;go_ret;exact⟨by rfl,by repeat(first|exact Drawn0.refl _|apply Drawn0.step)⟩
   ·replace c4:=Bool.eq_false_iff.mpr c4;subst c4;rw[if_neg (show ¬(false=true)by decide)]at H;have H':=zA H;clear H;go_wp2;go_loopg [3] kj1 (fun kq v3 w'=> ∃ (x3_2:Int),v3= .int .i64 x3_2∧Aside0 (term_isLang.l0 kq a0 x3_2=some r)∧Aside0 (kq≤kj1)∧Drawn0 w w');(case atStart=>exact⟨(0),(by rfl),H',⟨Nat.le_refl _⟩,by repeat(first|exact Drawn0.refl _|apply Drawn0.step)⟩);case round=>
     clear H';obtain⟨x3_2,rfl,HA,HK2,⟨m2,rfl⟩⟩:=hrel;cases gk with
     |zero=>exact absurd HA.out (by simp[term_isLang.l0])
     |succ k2=>
      have H:=HA.out;clear HA;simp only[term_isLang.l0]at H;obtain⟨c5b0,H⟩|⟨c5b0,H⟩:=zj H
      ·obtain⟨c6b0,H⟩|⟨_,H⟩:=zj H
       ·obtain⟨c8b0,H⟩|⟨c8b0,H⟩:=zj H
        ·obtain rfl:=Option.some.inj H;have p7:0≤(x3_2:Int):=zD;have q7:x3_2<(a0.size:Int):=zD;have hx7:=bt_at a0 x3_2;replace p7:=eq_true p7;replace q7:=eq_true q7;go_wp2;go_ret;exact⟨by rfl,by repeat(first|exact Drawn0.refl _|apply Drawn0.step)⟩
        ·by_cases c10:(bt a0 x3_2)>122
         ·rw[if_pos c10]at H;have c10b0:decide (122<(bt a0 x3_2))=true:=decide_eq_true c10;clear c10;obtain rfl:=Option.some.inj H;have p7:0≤(x3_2:Int):=zD;have q7:x3_2<(a0.size:Int):=zD;have hx7:=bt_at a0 x3_2;replace p7:=eq_true p7;replace q7:=eq_true q7;have p9:0≤(x3_2:Int):=zD;have q9:x3_2<(a0.size:Int):=zD;have hx9:=bt_at a0 x3_2;replace p9:=eq_true p9;replace q9:=eq_true q9;go_wp2;go_ret;exact⟨by rfl,by repeat(first|exact Drawn0.refl _|apply Drawn0.step)⟩
         ·rw[if_neg c10]at H;have c10b0:decide (122<(bt a0 x3_2))=false:=decide_eq_false c10;clear c10;have H':=zA H;clear H;have p7:0≤(x3_2:Int):=zD;have q7:x3_2<(a0.size:Int):=zD;have hx7:=bt_at a0 x3_2;replace p7:=eq_true p7;replace q7:=eq_true q7;have p9:0≤(x3_2:Int):=zD;have q9:x3_2<(a0.size:Int):=zD;have hx9:=bt_at a0 x3_2;replace p9:=eq_true p9;replace q9:=eq_true q9;go_wp2;go_roundg k2;(case measure=>have:=HJ1.out;have:=HK2.out;omega);case rel=>exact⟨(wrap64 (x3_2+1)),(by rfl),H',⟨by have:=HJ1.out;have:=HK2.out;omega⟩,by repeat(first|exact Drawn0.refl _|apply Drawn0.step)⟩
       ·cases H
      ·obtain rfl:=Option.some.inj H;go_wp2;go_ret;exact⟨by rfl,by repeat(first|exact Drawn0.refl _|apply Drawn0.step)⟩
end Go.Proofs.Ytcfoebkbahpnaaa.L
