import Derived.Test.YtcfoebkbahpnaaaDCx0
import Derived.Test.YtcfoebkbahpnaaaDCx8
namespace Go.Proofs.Ytcfoebkbahpnaaa.L
open Go.RowKit Go.Proofs.YtcfoebkbahpnaaaW.PrintWords Go.Proofs.YtcfoebkbahpnaaaW.PrintLast Go.Proofs.YtcfoebkbahpnaaaW.PrintMore
attribute [local go_sem] max2_int min2_int max_two min_two max_three min_three max_four min_four
set_option linter.unusedVariables false
set_option maxHeartbeats 8000000
set_option maxRecDepth 100000
set_option linter.unusedSimpArgs false
attribute [local go_sem high] eqA53 eqA112
def legationref03_Same.l0 : Nat → List (S53) → List (S53) → Int → Option (Bool)
  | 0, _, _, _ => none
  | k + 1, x0, x1, x5 => if x5 < (x0.length : Int) then (if 0 ≤ x5 then (if x5 < (x1.length : Int) then (if ((!(((rd_T53 x0 x5).f0.f0) == ((rd_T53 x1 x5).f0.f0)) || (!((((rd_T53 x0 x5).f0.f1).toList) == (((rd_T53 x1 x5).f0.f1).toList)) || (!((((rd_T53 x0 x5).f0.f2).toList) == (((rd_T53 x1 x5).f0.f2).toList)) || (!((((rd_T53 x0 x5).f0.f3).toList) == (((rd_T53 x1 x5).f0.f3).toList)))))) || ((!(((rd_T53 x0 x5).f1.f0) == ((rd_T53 x1 x5).f1.f0)) || (!((((rd_T53 x0 x5).f1.f1).toList) == (((rd_T53 x1 x5).f1.f1).toList)) || (!((((rd_T53 x0 x5).f1.f2).toList) == (((rd_T53 x1 x5).f1.f2).toList)) || (!((((rd_T53 x0 x5).f1.f3).toList) == (((rd_T53 x1 x5).f1.f3).toList)))))) || ((!(((rd_T53 x0 x5).f2.f0) == ((rd_T53 x1 x5).f2.f0)) || (!((((rd_T53 x0 x5).f2.f1).toList) == (((rd_T53 x1 x5).f2.f1).toList)) || (!((((rd_T53 x0 x5).f2.f2).toList) == (((rd_T53 x1 x5).f2.f2).toList)) || (!((((rd_T53 x0 x5).f2.f3).toList) == (((rd_T53 x1 x5).f2.f3).toList))))))))) = true then (some false) else (legationref03_Same.l0 k x0 x1 (wrap64 (x5 + 1)))) else (none)) else (none)) else (some true)
def legationref03_Same.f (k : Nat) (l0 : List (S53)) (l1 : List (S53)) : Option (Bool) := if (l0.length : Int) = (l1.length : Int) then (legationref03_Same.l0 k l0 l1 0) else (some false)
theorem legationref03_Same.calls (k:Nat) (A0:Option Addr) (c0:Nat) (l0:List (S53)) (A1:Option Addr) (c1:Nat) (l1:List (S53)) (r:Bool) (w:World) (hr0:Kd.C k53 w A0 l0.length l0) (hc0:l0.length≤c0) (hr1:Kd.C k53 w A1 l1.length l1) (hc1:l1.length≤c1) (h:legationref03_Same.f k l0 l1=some r):
 Calls Try.prog 30 #[.slice A0 l0.length c0,.slice A1 l1.length c1] w fun e w'=>e= .returned (.bool r)∧Drawn0 w w':=by
 have HR0:=zA hr0;have HC0:=zA hc0;clear hr0 hc0;have HR1:=zA hr1;have HC1:=zA hc1;clear hr1 hc1;have H:(if(l0.length:Int)=(l1.length:Int)then(legationref03_Same.l0 k l0 l1 0)else(some false))=some r:=h;clear h;obtain⟨c3b1,H⟩|⟨c3b1,H⟩:=zn H
 ·have H':=zA H;clear H;go_enter Try.func30,Try.ntmps30;go_wp2;(repeat(go_quiet (fail)));go_loopg [5] k (fun kq v5 w'=> ∃ (x5_1:Int),v5= .int .i64 x5_1∧Aside0 (legationref03_Same.l0 kq l0 l1 x5_1=some r)∧Aside0 (kq≤k)∧Drawn0 w w');(case atStart=>exact⟨(0),(by rfl),H',⟨Nat.le_refl _⟩,by repeat(exact Drawn0.refl _)⟩);case round=>
   clear H';(try clear c3b1);obtain⟨x5_1,rfl,HA,HK1,⟨m1,rfl⟩⟩:=hrel;cases gk with
   |zero=>exact absurd HA.out (by simp[legationref03_Same.l0])
   |succ k1=>
    have H:=HA.out;clear HA;simp only[legationref03_Same.l0]at H;obtain⟨c4b0,H⟩|⟨c4b0,H⟩:=zj H
    ·obtain⟨c5b0,H⟩|⟨_,H⟩:=zj H
     ·obtain⟨c6b0,H⟩|⟨_,H⟩:=zj H
      ·by_cases c7:((!(((rd_T53 l0 x5_1).f0.f0)==((rd_T53 l1 x5_1).f0.f0))||(!((((rd_T53 l0 x5_1).f0.f1).toList)==(((rd_T53 l1 x5_1).f0.f1).toList))||(!((((rd_T53 l0 x5_1).f0.f2).toList)==(((rd_T53 l1 x5_1).f0.f2).toList))||(!((((rd_T53 l0 x5_1).f0.f3).toList)==(((rd_T53 l1 x5_1).f0.f3).toList))))))||((!(((rd_T53 l0 x5_1).f1.f0)==((rd_T53 l1 x5_1).f1.f0))||(!((((rd_T53 l0 x5_1).f1.f1).toList)==(((rd_T53 l1 x5_1).f1.f1).toList))||(!((((rd_T53 l0 x5_1).f1.f2).toList)==(((rd_T53 l1 x5_1).f1.f2).toList))||(!((((rd_T53 l0 x5_1).f1.f3).toList)==(((rd_T53 l1 x5_1).f1.f3).toList))))))||((!(((rd_T53 l0 x5_1).f2.f0)==((rd_T53 l1 x5_1).f2.f0))||(!((((rd_T53 l0 x5_1).f2.f1).toList)==(((rd_T53 l1 x5_1).f2.f1).toList))||(!((((rd_T53 l0 x5_1).f2.f2).toList)==(((rd_T53 l1 x5_1).f2.f2).toList))||(!((((rd_T53 l0 x5_1).f2.f3).toList)==(((rd_T53 l1 x5_1).f2.f3).toList)))))))))=true
       ·rw[if_pos c7]at H;have c7b0:((!(((rd_T53 l0 x5_1).f0.f0)==((rd_T53 l1 x5_1).f0.f0))||(!((((rd_T53 l0 x5_1).f0.f1).toList)==(((rd_T53 l1 x5_1).f0.f1).toList))||(!((((rd_T53 l0 x5_1).f0.f2).toList)==(((rd_T53 l1 x5_1).f0.f2).toList))||(!((((rd_T53 l0 x5_1).f0.f3).toList)==(((rd_T53 l1 x5_1).f0.f3).toList))))))||((!(((rd_T53 l0 x5_1).f1.f0)==((rd_T53 l1 x5_1).f1.f0))||(!((((rd_T53 l0 x5_1).f1.f1).toList)==(((rd_T53 l1 x5_1).f1.f1).toList))||(!((((rd_T53 l0 x5_1).f1.f2).toList)==(((rd_T53 l1 x5_1).f1.f2).toList))||(!((((rd_T53 l0 x5_1).f1.f3).toList)==(((rd_T53 l1 x5_1).f1.f3).toList))))))||((!(((rd_T53 l0 x5_1).f2.f0)==((rd_T53 l1 x5_1).f2.f0))||(!((((rd_T53 l0 x5_1).f2.f1).toList)==(((rd_T53 l1 x5_1).f2.f1).toList))||(!((((rd_T53 l0 x5_1).f2.f2).toList)==(((rd_T53 l1 x5_1).f2.f2).toList))||(!((((rd_T53 l0 x5_1).f2.f3).toList)==(((rd_T53 l1 x5_1).f2.f3).toList)))))))))=true:=c7;clear c7;obtain rfl:=Option.some.inj H;have p375:0≤(x5_1:Int):=zD;have q375:x5_1<(l0.length:Int):=zD;obtain⟨ad375,e375,hx375_0,hx375_1,hx375_2,hx375_3,hx375_4,hx375_5,hx375_6,hx375_7,hx375_8,hx375_9,hx375_10,hx375_11⟩:=at_T53 HR0.out x5_1 p375 q375;cases e375
        replace p375:=eq_true p375;replace q375:=eq_true q375;have p376:0≤(x5_1:Int):=zD;have q376:x5_1<(l1.length:Int):=zD;obtain⟨ad376,e376,hx376_0,hx376_1,hx376_2,hx376_3,hx376_4,hx376_5,hx376_6,hx376_7,hx376_8,hx376_9,hx376_10,hx376_11⟩:=at_T53 HR1.out x5_1 p376 q376;cases e376
        replace p376:=eq_true p376;replace q376:=eq_true q376;go_wp2;(repeat(go_quiet (fail);try go_wp2));go_ret;exact⟨by rfl,by repeat(first|exact Drawn0.refl _|apply Drawn0.step)⟩
       ·rw[if_neg c7]at H;have c7b0:((!(((rd_T53 l0 x5_1).f0.f0)==((rd_T53 l1 x5_1).f0.f0))||(!((((rd_T53 l0 x5_1).f0.f1).toList)==(((rd_T53 l1 x5_1).f0.f1).toList))||(!((((rd_T53 l0 x5_1).f0.f2).toList)==(((rd_T53 l1 x5_1).f0.f2).toList))||(!((((rd_T53 l0 x5_1).f0.f3).toList)==(((rd_T53 l1 x5_1).f0.f3).toList))))))||((!(((rd_T53 l0 x5_1).f1.f0)==((rd_T53 l1 x5_1).f1.f0))||(!((((rd_T53 l0 x5_1).f1.f1).toList)==(((rd_T53 l1 x5_1).f1.f1).toList))||(!((((rd_T53 l0 x5_1).f1.f2).toList)==(((rd_T53 l1 x5_1).f1.f2).toList))||(!((((rd_T53 l0 x5_1).f1.f3).toList)==(((rd_T53 l1 x5_1).f1.f3).toList))))))||((!(((rd_T53 l0 x5_1).f2.f0)==((rd_T53 l1 x5_1).f2.f0))||(!((((rd_T53 l0 x5_1).f2.f1).toList)==(((rd_T53 l1 x5_1).f2.f1).toList))||(!((((rd_T53 l0 x5_1).f2.f2).toList)==(((rd_T53 l1 x5_1).f2.f2).toList))||(!((((rd_T53 l0 x5_1).f2.f3).toList)==(((rd_T53 l1 x5_1).f2.f3).toList)))))))))=false:=(by simpa using c7);clear c7;have H':=zA H;clear H;have p375:0≤(x5_1:Int):=zD;have q375:x5_1<(l0.length:Int):=zD;obtain⟨ad375,e375,hx375_0,hx375_1,hx375_2,hx375_3,hx375_4,hx375_5,hx375_6,hx375_7,hx375_8,hx375_9,hx375_10,hx375_11⟩:=at_T53 HR0.out x5_1 p375 q375;cases e375
        replace p375:=eq_true p375;replace q375:=eq_true q375;have p376:0≤(x5_1:Int):=zD;have q376:x5_1<(l1.length:Int):=zD;obtain⟨ad376,e376,hx376_0,hx376_1,hx376_2,hx376_3,hx376_4,hx376_5,hx376_6,hx376_7,hx376_8,hx376_9,hx376_10,hx376_11⟩:=at_T53 HR1.out x5_1 p376 q376;cases e376
        replace p376:=eq_true p376;replace q376:=eq_true q376;go_wp2;(repeat(go_quiet (fail);try go_wp2));go_roundg k1;(case measure=>have:=HK1.out;omega);case rel=>exact⟨(wrap64 (x5_1+1)),(by rfl),H',⟨by have:=HK1.out;omega⟩,by repeat(first|exact Drawn0.refl _|apply Drawn0.step)⟩
      ·cases H
     ·cases H
    ·obtain rfl:=Option.some.inj H;go_wp2;(repeat(go_quiet (fail)));go_ret;exact⟨by rfl,by repeat(first|exact Drawn0.refl _|apply Drawn0.step)⟩
 ·obtain rfl:=Option.some.inj H;go_enter Try.func30,Try.ntmps30;go_wp2;(repeat(go_quiet (fail)));go_ret;exact⟨by rfl,by repeat(exact Drawn0.refl _)⟩
def legationref06_Same.l0 : Nat → List (S112) → List (S112) → Int → Option (Bool)
  | 0, _, _, _ => none
  | k + 1, x0, x1, x5 => if x5 < (x0.length : Int) then (if 0 ≤ x5 then (if x5 < (x1.length : Int) then (if (!(((rd_T112 x0 x5).f0) == ((rd_T112 x1 x5).f0)) || ((!(((rd_T112 x0 x5).f1.f0) == ((rd_T112 x1 x5).f1.f0)) || (!((((rd_T112 x0 x5).f1.f1).toList) == (((rd_T112 x1 x5).f1.f1).toList)) || (!((((rd_T112 x0 x5).f1.f2).toList) == (((rd_T112 x1 x5).f1.f2).toList)) || (!((((rd_T112 x0 x5).f1.f3).toList) == (((rd_T112 x1 x5).f1.f3).toList)))))) || (!((((rd_T112 x0 x5).f2).toList) == (((rd_T112 x1 x5).f2).toList)) || (!(((rd_T112 x0 x5).f3) == ((rd_T112 x1 x5).f3)))))) = true then (some false) else (legationref06_Same.l0 k x0 x1 (wrap64 (x5 + 1)))) else (none)) else (none)) else (some true)
def legationref06_Same.f (k : Nat) (l0 : List (S112)) (l1 : List (S112)) : Option (Bool) := if (l0.length : Int) = (l1.length : Int) then (legationref06_Same.l0 k l0 l1 0) else (some false)
theorem legationref06_Same.calls (k:Nat) (A0:Option Addr) (c0:Nat) (l0:List (S112)) (A1:Option Addr) (c1:Nat) (l1:List (S112)) (r:Bool) (w:World) (hr0:Kd.C k112 w A0 l0.length l0) (hc0:l0.length≤c0) (hr1:Kd.C k112 w A1 l1.length l1) (hc1:l1.length≤c1) (h:legationref06_Same.f k l0 l1=some r):
 Calls Try.prog 74 #[.slice A0 l0.length c0,.slice A1 l1.length c1] w fun e w'=>e= .returned (.bool r)∧Drawn0 w w':=by
 have HR0:=zA hr0;have HC0:=zA hc0;clear hr0 hc0;have HR1:=zA hr1;have HC1:=zA hc1;clear hr1 hc1;have H:(if(l0.length:Int)=(l1.length:Int)then(legationref06_Same.l0 k l0 l1 0)else(some false))=some r:=h;clear h;obtain⟨c3b1,H⟩|⟨c3b1,H⟩:=zn H
 ·have H':=zA H;clear H;go_enter Try.func74,Try.ntmps74;go_wp2;(repeat(go_quiet (fail)));go_loopg [5] k (fun kq v5 w'=> ∃ (x5_1:Int),v5= .int .i64 x5_1∧Aside0 (legationref06_Same.l0 kq l0 l1 x5_1=some r)∧Aside0 (kq≤k)∧Drawn0 w w');(case atStart=>exact⟨(0),(by rfl),H',⟨Nat.le_refl _⟩,by repeat(exact Drawn0.refl _)⟩);case round=>
   clear H';(try clear c3b1);obtain⟨x5_1,rfl,HA,HK1,⟨m1,rfl⟩⟩:=hrel;cases gk with
   |zero=>exact absurd HA.out (by simp[legationref06_Same.l0])
   |succ k1=>
    have H:=HA.out;clear HA;simp only[legationref06_Same.l0]at H;obtain⟨c4b0,H⟩|⟨c4b0,H⟩:=zj H
    ·obtain⟨c5b0,H⟩|⟨_,H⟩:=zj H
     ·obtain⟨c6b0,H⟩|⟨_,H⟩:=zj H
      ·by_cases c7:(!(((rd_T112 l0 x5_1).f0)==((rd_T112 l1 x5_1).f0))||((!(((rd_T112 l0 x5_1).f1.f0)==((rd_T112 l1 x5_1).f1.f0))||(!((((rd_T112 l0 x5_1).f1.f1).toList)==(((rd_T112 l1 x5_1).f1.f1).toList))||(!((((rd_T112 l0 x5_1).f1.f2).toList)==(((rd_T112 l1 x5_1).f1.f2).toList))||(!((((rd_T112 l0 x5_1).f1.f3).toList)==(((rd_T112 l1 x5_1).f1.f3).toList))))))||(!((((rd_T112 l0 x5_1).f2).toList)==(((rd_T112 l1 x5_1).f2).toList))||(!(((rd_T112 l0 x5_1).f3)==((rd_T112 l1 x5_1).f3))))))=true
       ·rw[if_pos c7]at H;have c7b0:(!(((rd_T112 l0 x5_1).f0)==((rd_T112 l1 x5_1).f0))||((!(((rd_T112 l0 x5_1).f1.f0)==((rd_T112 l1 x5_1).f1.f0))||(!((((rd_T112 l0 x5_1).f1.f1).toList)==(((rd_T112 l1 x5_1).f1.f1).toList))||(!((((rd_T112 l0 x5_1).f1.f2).toList)==(((rd_T112 l1 x5_1).f1.f2).toList))||(!((((rd_T112 l0 x5_1).f1.f3).toList)==(((rd_T112 l1 x5_1).f1.f3).toList))))))||(!((((rd_T112 l0 x5_1).f2).toList)==(((rd_T112 l1 x5_1).f2).toList))||(!(((rd_T112 l0 x5_1).f3)==((rd_T112 l1 x5_1).f3))))))=true:=c7;clear c7;obtain rfl:=Option.some.inj H;have p377:0≤(x5_1:Int):=zD;have q377:x5_1<(l0.length:Int):=zD;obtain⟨ad377,e377,hx377_0,hx377_1,hx377_2,hx377_3,hx377_4,hx377_5,hx377_6⟩:=at_T112 HR0.out x5_1 p377 q377;cases e377
        replace p377:=eq_true p377;replace q377:=eq_true q377;have p378:0≤(x5_1:Int):=zD;have q378:x5_1<(l1.length:Int):=zD;obtain⟨ad378,e378,hx378_0,hx378_1,hx378_2,hx378_3,hx378_4,hx378_5,hx378_6⟩:=at_T112 HR1.out x5_1 p378 q378;cases e378
        replace p378:=eq_true p378;replace q378:=eq_true q378;go_wp2;(repeat(go_quiet (fail);try go_wp2));go_ret;exact⟨by rfl,by repeat(first|exact Drawn0.refl _|apply Drawn0.step)⟩
       ·rw[if_neg c7]at H;have c7b0:(!(((rd_T112 l0 x5_1).f0)==((rd_T112 l1 x5_1).f0))||((!(((rd_T112 l0 x5_1).f1.f0)==((rd_T112 l1 x5_1).f1.f0))||(!((((rd_T112 l0 x5_1).f1.f1).toList)==(((rd_T112 l1 x5_1).f1.f1).toList))||(!((((rd_T112 l0 x5_1).f1.f2).toList)==(((rd_T112 l1 x5_1).f1.f2).toList))||(!((((rd_T112 l0 x5_1).f1.f3).toList)==(((rd_T112 l1 x5_1).f1.f3).toList))))))||(!((((rd_T112 l0 x5_1).f2).toList)==(((rd_T112 l1 x5_1).f2).toList))||(!(((rd_T112 l0 x5_1).f3)==((rd_T112 l1 x5_1).f3))))))=false:=(by simpa using c7);clear c7;have H':=zA H;clear H;have p377:0≤(x5_1:Int):=zD;have q377:x5_1<(l0.length:Int):=zD;obtain⟨ad377,e377,hx377_0,hx377_1,hx377_2,hx377_3,hx377_4,hx377_5,hx377_6⟩:=at_T112 HR0.out x5_1 p377 q377;cases e377
        replace p377:=eq_true p377;replace q377:=eq_true q377;have p378:0≤(x5_1:Int):=zD;have q378:x5_1<(l1.length:Int):=zD;obtain⟨ad378,e378,hx378_0,hx378_1,hx378_2,hx378_3,hx378_4,hx378_5,hx378_6⟩:=at_T112 HR1.out x5_1 p378 q378;cases e378
        replace p378:=eq_true p378;replace q378:=eq_true q378;go_wp2;(repeat(go_quiet (fail);try go_wp2));go_roundg k1;(case measure=>have:=HK1.out;omega);case rel=>exact⟨(wrap64 (x5_1+1)),(by rfl),H',⟨by have:=HK1.out;omega⟩,by repeat(first|exact Drawn0.refl _|apply Drawn0.step)⟩
      ·cases H
     ·cases H
    ·obtain rfl:=Option.some.inj H;go_wp2;(repeat(go_quiet (fail)));go_ret;exact⟨by rfl,by repeat(first|exact Drawn0.refl _|apply Drawn0.step)⟩
 ·obtain rfl:=Option.some.inj H;go_enter Try.func74,Try.ntmps74;go_wp2;(repeat(go_quiet (fail)));go_ret;exact⟨by rfl,by repeat(exact Drawn0.refl _)⟩
def legationref03_SameTexts.l0 : Nat → List ByteArray → List ByteArray → Int → Option (Bool)
  | 0, _, _, _ => none
  | k + 1, x0, x1, x5 => if x5 < (x0.length : Int) then (if 0 ≤ x5 then (if x5 < (x1.length : Int) then (if (rdOf ByteArray.empty x0 x5).toList = (rdOf ByteArray.empty x1 x5).toList then (legationref03_SameTexts.l0 k x0 x1 (wrap64 (x5 + 1))) else (some false)) else (none)) else (none)) else (some true)
def legationref03_SameTexts.f (k : Nat) (l0 : List ByteArray) (l1 : List ByteArray) : Option (Bool) := if (l0.length : Int) = (l1.length : Int) then (legationref03_SameTexts.l0 k l0 l1 0) else (some false)
theorem legationref03_SameTexts.calls (k:Nat) (A0:Option Addr) (c0:Nat) (l0:List ByteArray) (A1:Option Addr) (c1:Nat) (l1:List ByteArray) (r:Bool) (w:World) (hr0:Kd.C Kd.string w A0 l0.length l0) (hc0:l0.length≤c0) (hr1:Kd.C Kd.string w A1 l1.length l1) (hc1:l1.length≤c1) (h:legationref03_SameTexts.f k l0 l1=some r):
 Calls Try.prog 75 #[.slice A0 l0.length c0,.slice A1 l1.length c1] w fun e w'=>e= .returned (.bool r)∧Drawn0 w w':=by
 have HR0:=zA hr0;have HC0:=zA hc0;clear hr0 hc0;have HR1:=zA hr1;have HC1:=zA hc1;clear hr1 hc1;have H:(if(l0.length:Int)=(l1.length:Int)then(legationref03_SameTexts.l0 k l0 l1 0)else(some false))=some r:=h;clear h;obtain⟨c3b1,H⟩|⟨c3b1,H⟩:=zn H
 ·have H':=zA H;clear H;go_enter Try.func75,Try.ntmps75;go_wp2;(repeat(go_quiet (fail)));go_loopg [5] k (fun kq v5 w'=> ∃ (x5_1:Int),v5= .int .i64 x5_1∧Aside0 (legationref03_SameTexts.l0 kq l0 l1 x5_1=some r)∧Aside0 (kq≤k)∧Drawn0 w w');(case atStart=>exact⟨(0),(by rfl),H',⟨Nat.le_refl _⟩,by repeat(exact Drawn0.refl _)⟩);case round=>
   clear H';(try clear c3b1);obtain⟨x5_1,rfl,HA,HK1,⟨m1,rfl⟩⟩:=hrel;cases gk with
   |zero=>exact absurd HA.out (by simp[legationref03_SameTexts.l0])
   |succ k1=>
    have H:=HA.out;clear HA;simp only[legationref03_SameTexts.l0]at H;obtain⟨c4b0,H⟩|⟨c4b0,H⟩:=zj H
    ·obtain⟨c5b0,H⟩|⟨_,H⟩:=zj H
     ·obtain⟨c6b0,H⟩|⟨_,H⟩:=zj H
      ·obtain⟨c7b0,H⟩|⟨c7b0,H⟩:=zb H
       ·have H':=zA H;clear H;have p379:0≤(x5_1:Int):=zD;have q379:x5_1<(l0.length:Int):=zD;obtain⟨ad379,e379,hx379_0⟩:=Kd.at_string HR0.out x5_1 p379 q379;cases e379
        replace p379:=eq_true p379;replace q379:=eq_true q379;have p380:0≤(x5_1:Int):=zD;have q380:x5_1<(l1.length:Int):=zD;obtain⟨ad380,e380,hx380_0⟩:=Kd.at_string HR1.out x5_1 p380 q380;cases e380
        replace p380:=eq_true p380;replace q380:=eq_true q380;go_wp2;(repeat(go_quiet (fail);try go_wp2));go_roundg k1;(case measure=>have:=HK1.out;omega);case rel=>exact⟨(wrap64 (x5_1+1)),(by rfl),H',⟨by have:=HK1.out;omega⟩,by repeat(first|exact Drawn0.refl _|apply Drawn0.step)⟩
       ·obtain rfl:=Option.some.inj H;have p379:0≤(x5_1:Int):=zD;have q379:x5_1<(l0.length:Int):=zD;obtain⟨ad379,e379,hx379_0⟩:=Kd.at_string HR0.out x5_1 p379 q379;cases e379
        replace p379:=eq_true p379;replace q379:=eq_true q379;have p380:0≤(x5_1:Int):=zD;have q380:x5_1<(l1.length:Int):=zD;obtain⟨ad380,e380,hx380_0⟩:=Kd.at_string HR1.out x5_1 p380 q380;cases e380
        replace p380:=eq_true p380;replace q380:=eq_true q380;go_wp2;(repeat(go_quiet (fail);try go_wp2));go_ret;exact⟨by rfl,by repeat(first|exact Drawn0.refl _|apply Drawn0.step)⟩
      ·cases H
     ·cases H
    ·obtain rfl:=Option.some.inj H;go_wp2;(repeat(go_quiet (fail)));go_ret;exact⟨by rfl,by repeat(first|exact Drawn0.refl _|apply Drawn0.step)⟩
 ·obtain rfl:=Option.some.inj H;go_enter Try.func75,Try.ntmps75;go_wp2;(repeat(go_quiet (fail)));go_ret;exact⟨by rfl,by repeat(exact Drawn0.refl _)⟩
end Go.Proofs.Ytcfoebkbahpnaaa.L
