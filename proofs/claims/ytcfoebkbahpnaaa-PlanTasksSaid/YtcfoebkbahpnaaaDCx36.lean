import Derived.Test.YtcfoebkbahpnaaaDCx0
import Derived.Test.YtcfoebkbahpnaaaDCx27
namespace Go.Proofs.Ytcfoebkbahpnaaa.L
open Go.RowKit Go.Proofs.YtcfoebkbahpnaaaW.PrintWords Go.Proofs.YtcfoebkbahpnaaaW.PrintLast Go.Proofs.YtcfoebkbahpnaaaW.PrintMore
attribute [local go_sem] max2_int min2_int max_two min_two max_three min_three max_four min_four
set_option linter.unusedVariables false
set_option maxHeartbeats 8000000
set_option maxRecDepth 100000
set_option linter.unusedSimpArgs false
def legationref21_inner.l0 : Nat → List (S45) → Int → Int → Option (Bool)
  | 0, _, _, _ => none
  | k + 1, x0, x1, x5 => if x5 < (x0.length : Int) then (if 0 ≤ x5 then (if ((rd_T45 x0 x5).f0) = 9 then ((legationref07_From.f k x0 x5).bind fun t409 => (if t409 ≤ x1 then (some true) else (legationref21_inner.l0 k x0 x1 (wrap64 (x5 + 1))))) else (legationref21_inner.l0 k x0 x1 (wrap64 (x5 + 1)))) else (none)) else (some false)
def legationref21_inner.f (k : Nat) (l0 : List (S45)) (a1 : Int) : Option (Bool) := legationref21_inner.l0 k l0 a1 (wrap64 (a1 + 1))
theorem legationref21_inner.calls (k:Nat) (A0:Option Addr) (c0:Nat) (l0:List (S45)) (a1:Int) (r:Bool) (w:World) (hr0:Kd.C k45 w A0 l0.length l0) (hc0:l0.length≤c0) (h:legationref21_inner.f k l0 a1=some r):
 Calls Try.prog 32 #[.slice A0 l0.length c0,.int .i64 a1] w fun e w'=>e= .returned (.bool r)∧Below w.heap.size w w':=by
 have HR0:=zA hr0;have HC0:=zA hc0;clear hr0 hc0;have HB:=zA (Below.refl w.heap.size w);have H:(legationref21_inner.l0 k l0 a1 (wrap64 (a1+1)))=some r:=h;clear h;have H':=zA H;clear H;go_enter Try.func32,Try.ntmps32;go_wp2;go_loopg [5] k (fun kq v5 w'=> ∃ (x5_1:Int),v5= .int .i64 x5_1∧Aside0 (legationref21_inner.l0 kq l0 a1 x5_1=some r)∧Aside0 (kq≤k)∧Aside0 (Below w.heap.size w w'));(case atStart=>exact⟨(wrap64 (a1+1)),(by rfl),H',⟨Nat.le_refl _⟩,⟨HB.out⟩⟩);case round=>
  clear H';obtain⟨x5_1,rfl,HA,HK1,HB⟩:=hrel;cases gk with
  |zero=>exact absurd HA.out (by simp[legationref21_inner.l0])
  |succ k1=>
   have H:=HA.out;clear HA;simp only[legationref21_inner.l0]at H;obtain⟨c3b0,H⟩|⟨c3b0,H⟩:=zj H
   ·obtain⟨c4b0,H⟩|⟨_,H⟩:=zj H
    ·obtain⟨c5b0,H⟩|⟨c5b0,H⟩:=zb H
     ·obtain⟨t409,A6,H⟩:=zk H;obtain⟨c7b0,H⟩|⟨c7b0,H⟩:=zj H
      ·obtain rfl:=Option.some.inj H;have p408:0≤(x5_1:Int):=zD;have q408:x5_1<(l0.length:Int):=zD;obtain⟨ad408,A408_1,c408_1,A408_2,c408_2,A408_3,c408_3,A408_4,c408_4,e408,hx408_0,hx408_1,hx408_2,hx408_3,hx408_4,hx408_5,hx408_6,hl408_1,hi408_1,hl408_2,hi408_2,hl408_3,hi408_3,hl408_4,hi408_4⟩:=at_T45 HR0.out x5_1 p408 q408;cases e408
       replace hx408_0:=zh HB.out hx408_0;replace hx408_1:=zh HB.out hx408_1;replace hx408_2:=zh HB.out hx408_2;replace hx408_3:=zh HB.out hx408_3;replace hx408_4:=zh HB.out hx408_4;replace hx408_5:=zh HB.out hx408_5;replace hx408_6:=zh HB.out hx408_6;have HR408_1:=zA hi408_1;have HC408_1:=zA hl408_1;clear hi408_1 hl408_1;have HR408_2:=zA hi408_2;have HC408_2:=zA hl408_2;clear hi408_2 hl408_2;have HR408_3:=zA hi408_3;have HC408_3:=zA hl408_3;clear hi408_3 hl408_3;have HR408_4:=zA hi408_4;have HC408_4:=zA hl408_4;clear hi408_4 hl408_4;replace p408:=eq_true p408;replace q408:=eq_true q408;go_wp2_with ((go_at_call 14;(with_reducible refine(legationref07_From.calls k1 _ _ l0 x5_1 t409 _ ?side1 ?side2 A6.out).mono ?_);(case side1=>exact Kd.C_below HR0.out HB.out);(case side2=>exact HC0.out);rintro e w8 ⟨rfl,hb⟩;replace HB:=zS HB.out hb;(try clear hb)));go_ret;exact⟨by rfl,HB.out⟩
      ·have H':=zA H;clear H;have p408:0≤(x5_1:Int):=zD;have q408:x5_1<(l0.length:Int):=zD;obtain⟨ad408,A408_1,c408_1,A408_2,c408_2,A408_3,c408_3,A408_4,c408_4,e408,hx408_0,hx408_1,hx408_2,hx408_3,hx408_4,hx408_5,hx408_6,hl408_1,hi408_1,hl408_2,hi408_2,hl408_3,hi408_3,hl408_4,hi408_4⟩:=at_T45 HR0.out x5_1 p408 q408;cases e408
       replace hx408_0:=zh HB.out hx408_0;replace hx408_1:=zh HB.out hx408_1;replace hx408_2:=zh HB.out hx408_2;replace hx408_3:=zh HB.out hx408_3;replace hx408_4:=zh HB.out hx408_4;replace hx408_5:=zh HB.out hx408_5;replace hx408_6:=zh HB.out hx408_6;have HR408_1:=zA hi408_1;have HC408_1:=zA hl408_1;clear hi408_1 hl408_1;have HR408_2:=zA hi408_2;have HC408_2:=zA hl408_2;clear hi408_2 hl408_2;have HR408_3:=zA hi408_3;have HC408_3:=zA hl408_3;clear hi408_3 hl408_3;have HR408_4:=zA hi408_4;have HC408_4:=zA hl408_4;clear hi408_4 hl408_4;replace p408:=eq_true p408;replace q408:=eq_true q408;go_wp2_with ((go_at_call 14;(with_reducible refine(legationref07_From.calls k1 _ _ l0 x5_1 t409 _ ?side1 ?side2 A6.out).mono ?_);(case side1=>exact Kd.C_below HR0.out HB.out);(case side2=>exact HC0.out);rintro e w9 ⟨rfl,hb⟩;replace HB:=zS HB.out hb;(try clear hb)));go_roundg k1;(case measure=>have:=HK1.out;omega);case rel=>exact⟨(wrap64 (x5_1+1)),(by rfl),H',⟨by have:=HK1.out;omega⟩,⟨HB.out⟩⟩
     ·have H':=zA H;clear H;have p408:0≤(x5_1:Int):=zD;have q408:x5_1<(l0.length:Int):=zD;obtain⟨ad408,A408_1,c408_1,A408_2,c408_2,A408_3,c408_3,A408_4,c408_4,e408,hx408_0,hx408_1,hx408_2,hx408_3,hx408_4,hx408_5,hx408_6,hl408_1,hi408_1,hl408_2,hi408_2,hl408_3,hi408_3,hl408_4,hi408_4⟩:=at_T45 HR0.out x5_1 p408 q408;cases e408
      replace hx408_0:=zh HB.out hx408_0;replace hx408_1:=zh HB.out hx408_1;replace hx408_2:=zh HB.out hx408_2;replace hx408_3:=zh HB.out hx408_3;replace hx408_4:=zh HB.out hx408_4;replace hx408_5:=zh HB.out hx408_5;replace hx408_6:=zh HB.out hx408_6;have HR408_1:=zA hi408_1;have HC408_1:=zA hl408_1;clear hi408_1 hl408_1;have HR408_2:=zA hi408_2;have HC408_2:=zA hl408_2;clear hi408_2 hl408_2;have HR408_3:=zA hi408_3;have HC408_3:=zA hl408_3;clear hi408_3 hl408_3;have HR408_4:=zA hi408_4;have HC408_4:=zA hl408_4;clear hi408_4 hl408_4;replace p408:=eq_true p408;replace q408:=eq_true q408;go_wp2;go_roundg k1;(case measure=>have:=HK1.out;omega);case rel=>exact⟨(wrap64 (x5_1+1)),(by rfl),H',⟨by have:=HK1.out;omega⟩,⟨HB.out⟩⟩
    ·cases H
   ·obtain rfl:=Option.some.inj H;go_wp2;go_ret;exact⟨by rfl,HB.out⟩
def legationref21_point.l0 : Nat → List ByteArray → ByteArray → Int → Option (Int)
  | 0, _, _, _ => none
  | k + 1, x0, x1, x5 => if x5 < (x0.length : Int) then (if 0 ≤ x5 then (if (rdOf ByteArray.empty x0 x5).toList = x1.toList then (some x5) else (legationref21_point.l0 k x0 x1 (wrap64 (x5 + 1)))) else (none)) else (some (-1))
def legationref21_point.f (k : Nat) (l0 : List ByteArray) (a1 : ByteArray) : Option (Int) := legationref21_point.l0 k l0 a1 0
theorem legationref21_point.calls (k:Nat) (A0:Option Addr) (c0:Nat) (l0:List ByteArray) (a1:ByteArray) (r:Int) (w:World) (hr0:Kd.C Kd.string w A0 l0.length l0) (hc0:l0.length≤c0) (h:legationref21_point.f k l0 a1=some r):
 Calls Try.prog 33 #[.slice A0 l0.length c0,.string a1] w fun e w'=>e= .returned (.int .i64 r)∧Drawn0 w w':=by
 have HR0:=zA hr0;have HC0:=zA hc0;clear hr0 hc0;have H:(legationref21_point.l0 k l0 a1 0)=some r:=h;clear h;have H':=zA H;clear H;go_enter Try.func33,Try.ntmps33;go_wp2;go_loopg [5] k (fun kq v5 w'=> ∃ (x5_1:Int),v5= .int .i64 x5_1∧Aside0 (legationref21_point.l0 kq l0 a1 x5_1=some r)∧Aside0 (kq≤k)∧Drawn0 w w');(case atStart=>exact⟨(0),(by rfl),H',⟨Nat.le_refl _⟩,by repeat(exact Drawn0.refl _)⟩);case round=>
  clear H';obtain⟨x5_1,rfl,HA,HK1,⟨m1,rfl⟩⟩:=hrel;cases gk with
  |zero=>exact absurd HA.out (by simp[legationref21_point.l0])
  |succ k1=>
   have H:=HA.out;clear HA;simp only[legationref21_point.l0]at H;obtain⟨c3b0,H⟩|⟨c3b0,H⟩:=zj H
   ·obtain⟨c4b0,H⟩|⟨_,H⟩:=zj H
    ·obtain⟨c5b0,H⟩|⟨c5b0,H⟩:=zb H
     ·obtain rfl:=Option.some.inj H;have p410:0≤(x5_1:Int):=zD;have q410:x5_1<(l0.length:Int):=zD;obtain⟨ad410,e410,hx410_0⟩:=Kd.at_string HR0.out x5_1 p410 q410;cases e410
      replace p410:=eq_true p410;replace q410:=eq_true q410;go_wp2;go_ret;exact⟨by rfl,by repeat(first|exact Drawn0.refl _|apply Drawn0.step)⟩
     ·have H':=zA H;clear H;have p410:0≤(x5_1:Int):=zD;have q410:x5_1<(l0.length:Int):=zD;obtain⟨ad410,e410,hx410_0⟩:=Kd.at_string HR0.out x5_1 p410 q410;cases e410
      replace p410:=eq_true p410;replace q410:=eq_true q410;go_wp2;go_roundg k1;(case measure=>have:=HK1.out;omega);case rel=>exact⟨(wrap64 (x5_1+1)),(by rfl),H',⟨by have:=HK1.out;omega⟩,by repeat(first|exact Drawn0.refl _|apply Drawn0.step)⟩
    ·cases H
   ·obtain rfl:=Option.some.inj H;go_wp2;go_ret;exact⟨by rfl,by repeat(first|exact Drawn0.refl _|apply Drawn0.step)⟩
end Go.Proofs.Ytcfoebkbahpnaaa.L
