import Derived.Test.YtcfoebkbahpnaaaDCx0
namespace Go.Proofs.Ytcfoebkbahpnaaa.L
open Go.RowKit Go.Proofs.YtcfoebkbahpnaaaW.PrintWords Go.Proofs.YtcfoebkbahpnaaaW.PrintLast Go.Proofs.YtcfoebkbahpnaaaW.PrintMore
attribute [local go_sem] max2_int min2_int max_two min_two max_three min_three max_four min_four
set_option linter.unusedVariables false
set_option maxHeartbeats 8000000
set_option maxRecDepth 100000
set_option linter.unusedSimpArgs false
def legationref14_Light.l0 : Nat → List (S45) → Int → Option (Bool)
  | 0, _, _ => none
  | k + 1, x0, x3 => if x3 < (x0.length : Int) then (if 0 ≤ x3 then (if (((rd_T45 x0 x3).f1).length : Int) > 5 then (some false) else (if (((rd_T45 x0 x3).f2.f1).length : Int) > 8 then (some false) else (if (((rd_T45 x0 x3).f3).length : Int) > 30 then (some false) else (legationref14_Light.l0 k x0 (wrap64 (x3 + 1)))))) else (none)) else (some true)
def legationref14_Light.f (k : Nat) (l0 : List (S45)) : Option (Bool) := if (l0.length : Int) > 14 then (some (decide ((l0.length : Int) > 128))) else (legationref14_Light.l0 k l0 0)
theorem legationref14_Light.calls (k:Nat) (A0:Option Addr) (c0:Nat) (l0:List (S45)) (r:Bool) (w:World) (hr0:Kd.C k45 w A0 l0.length l0) (hc0:l0.length≤c0) (h:legationref14_Light.f k l0=some r):
 Calls Try.prog 6 #[.slice A0 l0.length c0] w fun e w'=>e= .returned (.bool r)∧Drawn0 w w':=by
 have HR0:=zA hr0;have HC0:=zA hc0;clear hr0 hc0;have H:(if(l0.length:Int)>14 then(some (decide ((l0.length:Int)>128)))else(legationref14_Light.l0 k l0 0))=some r:=h;clear h;by_cases c2:(l0.length:Int)>14
 ·rw[if_pos c2]at H;have c2b0:decide (14<(l0.length:Int))=true:=decide_eq_true c2;clear c2;obtain rfl:=Option.some.inj H;go_enter Try.func6,Try.ntmps6;go_wp2;go_ret;exact⟨by rfl,by repeat(exact Drawn0.refl _)⟩
 ·rw[if_neg c2]at H;have c2b0:decide (14<(l0.length:Int))=false:=decide_eq_false c2;clear c2;have H':=zA H;clear H;go_enter Try.func6,Try.ntmps6;go_wp2;go_loopg [3] k (fun kq v3 w'=> ∃ (x3_1:Int),v3= .int .i64 x3_1∧Aside0 (legationref14_Light.l0 kq l0 x3_1=some r)∧Aside0 (kq≤k)∧Drawn0 w w');(case atStart=>exact⟨(0),(by rfl),H',⟨Nat.le_refl _⟩,by repeat(exact Drawn0.refl _)⟩);case round=>
   clear H';(try clear c2b0);obtain⟨x3_1,rfl,HA,HK1,⟨m1,rfl⟩⟩:=hrel;cases gk with
   |zero=>exact absurd HA.out (by simp[legationref14_Light.l0])
   |succ k1=>
    have H:=HA.out;clear HA;simp only[legationref14_Light.l0]at H;obtain⟨c3b0,H⟩|⟨c3b0,H⟩:=zj H
    ·obtain⟨c4b0,H⟩|⟨_,H⟩:=zj H
     ·by_cases c5:(((rd_T45 l0 x3_1).f1).length:Int)>5
      ·rw[if_pos c5]at H;have c5b0:decide (5<(((rd_T45 l0 x3_1).f1).length:Int))=true:=decide_eq_true c5;clear c5;obtain rfl:=Option.some.inj H;have p101:0≤(x3_1:Int):=zD;have q101:x3_1<(l0.length:Int):=zD;obtain⟨ad101,A101_1,c101_1,A101_2,c101_2,A101_3,c101_3,A101_4,c101_4,e101,hx101_0,hx101_1,hx101_2,hx101_3,hx101_4,hx101_5,hx101_6,hl101_1,hi101_1,hl101_2,hi101_2,hl101_3,hi101_3,hl101_4,hi101_4⟩:=at_T45 HR0.out x3_1 p101 q101;cases e101
       have HR101_1:=zA hi101_1;have HC101_1:=zA hl101_1;clear hi101_1 hl101_1;have HR101_2:=zA hi101_2;have HC101_2:=zA hl101_2;clear hi101_2 hl101_2;have HR101_3:=zA hi101_3;have HC101_3:=zA hl101_3;clear hi101_3 hl101_3;have HR101_4:=zA hi101_4;have HC101_4:=zA hl101_4;clear hi101_4 hl101_4;replace p101:=eq_true p101;replace q101:=eq_true q101;go_wp2;go_ret;exact⟨by rfl,by repeat(first|exact Drawn0.refl _|apply Drawn0.step)⟩
      ·rw[if_neg c5]at H;have c5b0:decide (5<(((rd_T45 l0 x3_1).f1).length:Int))=false:=decide_eq_false c5;clear c5;by_cases c6:(((rd_T45 l0 x3_1).f2.f1).length:Int)>8
       ·rw[if_pos c6]at H;have c6b0:decide (8<(((rd_T45 l0 x3_1).f2.f1).length:Int))=true:=decide_eq_true c6;clear c6;obtain rfl:=Option.some.inj H;have p101:0≤(x3_1:Int):=zD;have q101:x3_1<(l0.length:Int):=zD;obtain⟨ad101,A101_1,c101_1,A101_2,c101_2,A101_3,c101_3,A101_4,c101_4,e101,hx101_0,hx101_1,hx101_2,hx101_3,hx101_4,hx101_5,hx101_6,hl101_1,hi101_1,hl101_2,hi101_2,hl101_3,hi101_3,hl101_4,hi101_4⟩:=at_T45 HR0.out x3_1 p101 q101;cases e101
        have HR101_1:=zA hi101_1;have HC101_1:=zA hl101_1;clear hi101_1 hl101_1;have HR101_2:=zA hi101_2;have HC101_2:=zA hl101_2;clear hi101_2 hl101_2;have HR101_3:=zA hi101_3;have HC101_3:=zA hl101_3;clear hi101_3 hl101_3;have HR101_4:=zA hi101_4;have HC101_4:=zA hl101_4;clear hi101_4 hl101_4;replace p101:=eq_true p101;replace q101:=eq_true q101;have p102:0≤(x3_1:Int):=zD;have q102:x3_1<(l0.length:Int):=zD;obtain⟨ad102,A102_1,c102_1,A102_2,c102_2,A102_3,c102_3,A102_4,c102_4,e102,hx102_0,hx102_1,hx102_2,hx102_3,hx102_4,hx102_5,hx102_6,hl102_1,hi102_1,hl102_2,hi102_2,hl102_3,hi102_3,hl102_4,hi102_4⟩:=at_T45 HR0.out x3_1 p102 q102;obtain rfl:ad101=ad102:=(by injection e102);have HR102_1:=zA hi102_1;have HC102_1:=zA hl102_1;clear hi102_1 hl102_1;have HR102_2:=zA hi102_2;have HC102_2:=zA hl102_2;clear hi102_2 hl102_2;have HR102_3:=zA hi102_3;have HC102_3:=zA hl102_3;clear hi102_3 hl102_3;have HR102_4:=zA hi102_4;have HC102_4:=zA hl102_4;clear hi102_4 hl102_4;replace p102:=eq_true p102;replace q102:=eq_true q102;have ea_:=Option.some.inj (hx101_1.symm.trans hx102_1);injection ea_ with ea_ en_ ec_
        subst ea_;subst ec_;clear en_;have ea_:=Option.some.inj (hx101_2.symm.trans hx102_2);injection ea_ with ea_ en_ ec_
        subst ea_;subst ec_;clear en_;have ea_:=Option.some.inj (hx101_3.symm.trans hx102_3);injection ea_ with ea_ en_ ec_
        subst ea_;subst ec_;clear en_;have ea_:=Option.some.inj (hx101_4.symm.trans hx102_4);injection ea_ with ea_ en_ ec_
        subst ea_;subst ec_;clear en_;go_wp2;go_ret;exact⟨by rfl,by repeat(first|exact Drawn0.refl _|apply Drawn0.step)⟩
       ·rw[if_neg c6]at H;have c6b0:decide (8<(((rd_T45 l0 x3_1).f2.f1).length:Int))=false:=decide_eq_false c6;clear c6;by_cases c7:(((rd_T45 l0 x3_1).f3).length:Int)>30
        ·rw[if_pos c7]at H;have c7b0:decide (30<(((rd_T45 l0 x3_1).f3).length:Int))=true:=decide_eq_true c7;clear c7;obtain rfl:=Option.some.inj H;have p101:0≤(x3_1:Int):=zD;have q101:x3_1<(l0.length:Int):=zD;obtain⟨ad101,A101_1,c101_1,A101_2,c101_2,A101_3,c101_3,A101_4,c101_4,e101,hx101_0,hx101_1,hx101_2,hx101_3,hx101_4,hx101_5,hx101_6,hl101_1,hi101_1,hl101_2,hi101_2,hl101_3,hi101_3,hl101_4,hi101_4⟩:=at_T45 HR0.out x3_1 p101 q101;cases e101
         have HR101_1:=zA hi101_1;have HC101_1:=zA hl101_1;clear hi101_1 hl101_1;have HR101_2:=zA hi101_2;have HC101_2:=zA hl101_2;clear hi101_2 hl101_2;have HR101_3:=zA hi101_3;have HC101_3:=zA hl101_3;clear hi101_3 hl101_3;have HR101_4:=zA hi101_4;have HC101_4:=zA hl101_4;clear hi101_4 hl101_4;replace p101:=eq_true p101;replace q101:=eq_true q101;have p102:0≤(x3_1:Int):=zD;have q102:x3_1<(l0.length:Int):=zD;obtain⟨ad102,A102_1,c102_1,A102_2,c102_2,A102_3,c102_3,A102_4,c102_4,e102,hx102_0,hx102_1,hx102_2,hx102_3,hx102_4,hx102_5,hx102_6,hl102_1,hi102_1,hl102_2,hi102_2,hl102_3,hi102_3,hl102_4,hi102_4⟩:=at_T45 HR0.out x3_1 p102 q102;obtain rfl:ad101=ad102:=(by injection e102);have HR102_1:=zA hi102_1;have HC102_1:=zA hl102_1;clear hi102_1 hl102_1;have HR102_2:=zA hi102_2;have HC102_2:=zA hl102_2;clear hi102_2 hl102_2;have HR102_3:=zA hi102_3;have HC102_3:=zA hl102_3;clear hi102_3 hl102_3;have HR102_4:=zA hi102_4;have HC102_4:=zA hl102_4;clear hi102_4 hl102_4;replace p102:=eq_true p102;replace q102:=eq_true q102;have ea_:=Option.some.inj (hx101_1.symm.trans hx102_1);injection ea_ with ea_ en_ ec_
         subst ea_;subst ec_;clear en_;have ea_:=Option.some.inj (hx101_2.symm.trans hx102_2);injection ea_ with ea_ en_ ec_
         subst ea_;subst ec_;clear en_;have ea_:=Option.some.inj (hx101_3.symm.trans hx102_3);injection ea_ with ea_ en_ ec_
         subst ea_;subst ec_;clear en_;have ea_:=Option.some.inj (hx101_4.symm.trans hx102_4);injection ea_ with ea_ en_ ec_
         subst ea_;subst ec_;clear en_;have p103:0≤(x3_1:Int):=zD;have q103:x3_1<(l0.length:Int):=zD;obtain⟨ad103,A103_1,c103_1,A103_2,c103_2,A103_3,c103_3,A103_4,c103_4,e103,hx103_0,hx103_1,hx103_2,hx103_3,hx103_4,hx103_5,hx103_6,hl103_1,hi103_1,hl103_2,hi103_2,hl103_3,hi103_3,hl103_4,hi103_4⟩:=at_T45 HR0.out x3_1 p103 q103;obtain rfl:ad101=ad103:=(by injection e103);have HR103_1:=zA hi103_1;have HC103_1:=zA hl103_1;clear hi103_1 hl103_1;have HR103_2:=zA hi103_2;have HC103_2:=zA hl103_2;clear hi103_2 hl103_2;have HR103_3:=zA hi103_3;have HC103_3:=zA hl103_3;clear hi103_3 hl103_3;have HR103_4:=zA hi103_4;have HC103_4:=zA hl103_4;clear hi103_4 hl103_4;replace p103:=eq_true p103;replace q103:=eq_true q103;have ea_:=Option.some.inj (hx101_1.symm.trans hx103_1);injection ea_ with ea_ en_ ec_
         subst ea_;subst ec_;clear en_;have ea_:=Option.some.inj (hx101_2.symm.trans hx103_2);injection ea_ with ea_ en_ ec_
         subst ea_;subst ec_;clear en_;have ea_:=Option.some.inj (hx101_3.symm.trans hx103_3);injection ea_ with ea_ en_ ec_
         subst ea_;subst ec_;clear en_;have ea_:=Option.some.inj (hx101_4.symm.trans hx103_4);injection ea_ with ea_ en_ ec_
         subst ea_;subst ec_;clear en_;go_wp2;go_ret;exact⟨by rfl,by repeat(first|exact Drawn0.refl _|apply Drawn0.step)⟩
        ·rw[if_neg c7]at H;have c7b0:decide (30<(((rd_T45 l0 x3_1).f3).length:Int))=false:=decide_eq_false c7;clear c7;have H':=zA H;clear H;have p101:0≤(x3_1:Int):=zD;have q101:x3_1<(l0.length:Int):=zD;obtain⟨ad101,A101_1,c101_1,A101_2,c101_2,A101_3,c101_3,A101_4,c101_4,e101,hx101_0,hx101_1,hx101_2,hx101_3,hx101_4,hx101_5,hx101_6,hl101_1,hi101_1,hl101_2,hi101_2,hl101_3,hi101_3,hl101_4,hi101_4⟩:=at_T45 HR0.out x3_1 p101 q101;cases e101
         have HR101_1:=zA hi101_1;have HC101_1:=zA hl101_1;clear hi101_1 hl101_1;have HR101_2:=zA hi101_2;have HC101_2:=zA hl101_2;clear hi101_2 hl101_2;have HR101_3:=zA hi101_3;have HC101_3:=zA hl101_3;clear hi101_3 hl101_3;have HR101_4:=zA hi101_4;have HC101_4:=zA hl101_4;clear hi101_4 hl101_4;replace p101:=eq_true p101;replace q101:=eq_true q101;have p102:0≤(x3_1:Int):=zD;have q102:x3_1<(l0.length:Int):=zD;obtain⟨ad102,A102_1,c102_1,A102_2,c102_2,A102_3,c102_3,A102_4,c102_4,e102,hx102_0,hx102_1,hx102_2,hx102_3,hx102_4,hx102_5,hx102_6,hl102_1,hi102_1,hl102_2,hi102_2,hl102_3,hi102_3,hl102_4,hi102_4⟩:=at_T45 HR0.out x3_1 p102 q102;obtain rfl:ad101=ad102:=(by injection e102);have HR102_1:=zA hi102_1;have HC102_1:=zA hl102_1;clear hi102_1 hl102_1;have HR102_2:=zA hi102_2;have HC102_2:=zA hl102_2;clear hi102_2 hl102_2;have HR102_3:=zA hi102_3;have HC102_3:=zA hl102_3;clear hi102_3 hl102_3;have HR102_4:=zA hi102_4;have HC102_4:=zA hl102_4;clear hi102_4 hl102_4;replace p102:=eq_true p102;replace q102:=eq_true q102;have ea_:=Option.some.inj (hx101_1.symm.trans hx102_1);injection ea_ with ea_ en_ ec_
         subst ea_;subst ec_;clear en_;have ea_:=Option.some.inj (hx101_2.symm.trans hx102_2);injection ea_ with ea_ en_ ec_
         subst ea_;subst ec_;clear en_;have ea_:=Option.some.inj (hx101_3.symm.trans hx102_3);injection ea_ with ea_ en_ ec_
         subst ea_;subst ec_;clear en_;have ea_:=Option.some.inj (hx101_4.symm.trans hx102_4);injection ea_ with ea_ en_ ec_
         subst ea_;subst ec_;clear en_;have p103:0≤(x3_1:Int):=zD;have q103:x3_1<(l0.length:Int):=zD;obtain⟨ad103,A103_1,c103_1,A103_2,c103_2,A103_3,c103_3,A103_4,c103_4,e103,hx103_0,hx103_1,hx103_2,hx103_3,hx103_4,hx103_5,hx103_6,hl103_1,hi103_1,hl103_2,hi103_2,hl103_3,hi103_3,hl103_4,hi103_4⟩:=at_T45 HR0.out x3_1 p103 q103;obtain rfl:ad101=ad103:=(by injection e103);have HR103_1:=zA hi103_1;have HC103_1:=zA hl103_1;clear hi103_1 hl103_1;have HR103_2:=zA hi103_2;have HC103_2:=zA hl103_2;clear hi103_2 hl103_2;have HR103_3:=zA hi103_3;have HC103_3:=zA hl103_3;clear hi103_3 hl103_3;have HR103_4:=zA hi103_4;have HC103_4:=zA hl103_4;clear hi103_4 hl103_4;replace p103:=eq_true p103;replace q103:=eq_true q103;have ea_:=Option.some.inj (hx101_1.symm.trans hx103_1);injection ea_ with ea_ en_ ec_
         subst ea_;subst ec_;clear en_;have ea_:=Option.some.inj (hx101_2.symm.trans hx103_2);injection ea_ with ea_ en_ ec_
         subst ea_;subst ec_;clear en_;have ea_:=Option.some.inj (hx101_3.symm.trans hx103_3);injection ea_ with ea_ en_ ec_
         subst ea_;subst ec_;clear en_;have ea_:=Option.some.inj (hx101_4.symm.trans hx103_4);injection ea_ with ea_ en_ ec_
         subst ea_;subst ec_;clear en_;go_wp2;go_roundg k1;(case measure=>have:=HK1.out;omega);case rel=>exact⟨(wrap64 (x3_1+1)),(by rfl),H',⟨by have:=HK1.out;omega⟩,by repeat(first|exact Drawn0.refl _|apply Drawn0.step)⟩
     ·cases H
    ·obtain rfl:=Option.some.inj H;go_wp2;go_ret;exact⟨by rfl,by repeat(first|exact Drawn0.refl _|apply Drawn0.step)⟩
def term_iriByte.f (a0 : Int) : Option (Bool) := if a0 = 60 then (some false) else (if a0 = 62 then (some false) else (if a0 = 34 then (some false) else (if a0 = 123 then (some false) else (if a0 = 125 then (some false) else (if a0 = 124 then (some false) else (if a0 = 94 then (some false) else (if a0 = 96 then (some false) else (if a0 = 92 then (some false) else (if a0 ≥ 33 then (some (decide (a0 ≤ 126))) else (some false))))))))))
theorem term_iriByte.calls (a0:Int) (r:Bool) (w:World) (h:term_iriByte.f a0=some r):
 Calls Try.prog 67 #[.int .u8 a0] w fun e w'=>e= .returned (.bool r)∧Drawn0 w w':=by
 have H:(if a0=60 then(some false)else(if a0=62 then(some false)else(if a0=34 then(some false)else(if a0=123 then(some false)else(if a0=125 then(some false)else(if a0=124 then(some false)else(if a0=94 then(some false)else(if a0=96 then(some false)else(if a0=92 then(some false)else(if a0≥33 then(some (decide (a0≤126)))else(some false)))))))))))=some r:=h;clear h;obtain⟨c2b0,H⟩|⟨c2b0,H⟩:=zb H
 ·obtain rfl:=Option.some.inj H;go_enter Try.func67,Try.ntmps67;go_wp2;go_ret;exact⟨by rfl,by repeat(exact Drawn0.refl _)⟩
 ·obtain⟨c3b0,H⟩|⟨c3b0,H⟩:=zb H
  ·obtain rfl:=Option.some.inj H;go_enter Try.func67,Try.ntmps67;go_wp2;go_ret;exact⟨by rfl,by repeat(exact Drawn0.refl _)⟩
  ·obtain⟨c4b0,H⟩|⟨c4b0,H⟩:=zb H
   ·obtain rfl:=Option.some.inj H;go_enter Try.func67,Try.ntmps67;go_wp2;go_ret;exact⟨by rfl,by repeat(exact Drawn0.refl _)⟩
   ·obtain⟨c5b0,H⟩|⟨c5b0,H⟩:=zb H
    ·obtain rfl:=Option.some.inj H;go_enter Try.func67,Try.ntmps67;go_wp2;go_ret;exact⟨by rfl,by repeat(exact Drawn0.refl _)⟩
    ·obtain⟨c6b0,H⟩|⟨c6b0,H⟩:=zb H
     ·obtain rfl:=Option.some.inj H;go_enter Try.func67,Try.ntmps67;go_wp2;go_ret;exact⟨by rfl,by repeat(exact Drawn0.refl _)⟩
     ·obtain⟨c7b0,H⟩|⟨c7b0,H⟩:=zb H
      ·obtain rfl:=Option.some.inj H;go_enter Try.func67,Try.ntmps67;go_wp2;go_ret;exact⟨by rfl,by repeat(exact Drawn0.refl _)⟩
      ·obtain⟨c8b0,H⟩|⟨c8b0,H⟩:=zb H
       ·obtain rfl:=Option.some.inj H;go_enter Try.func67,Try.ntmps67;go_wp2;go_ret;exact⟨by rfl,by repeat(exact Drawn0.refl _)⟩
       ·obtain⟨c9b0,H⟩|⟨c9b0,H⟩:=zb H
        ·obtain rfl:=Option.some.inj H;go_enter Try.func67,Try.ntmps67;go_wp2;go_ret;exact⟨by rfl,by repeat(exact Drawn0.refl _)⟩
        ·obtain⟨c10b0,H⟩|⟨c10b0,H⟩:=zb H
         ·obtain rfl:=Option.some.inj H;go_enter Try.func67,Try.ntmps67;go_wp2;go_ret;exact⟨by rfl,by repeat(exact Drawn0.refl _)⟩
         ·by_cases c11:a0≥33
          ·rw[if_pos c11]at H;have c11b0:decide (33≤a0)=true:=decide_eq_true c11;clear c11;obtain rfl:=Option.some.inj H;go_enter Try.func67,Try.ntmps67;go_wp2;go_ret;exact⟨by rfl,by repeat(exact Drawn0.refl _)⟩
          ·rw[if_neg c11]at H;have c11b0:decide (33≤a0)=false:=decide_eq_false c11;clear c11;obtain rfl:=Option.some.inj H;go_enter Try.func67,Try.ntmps67;go_wp2;go_ret;exact⟨by rfl,by repeat(exact Drawn0.refl _)⟩
def iriB (c : UInt8) : Bool := term_iriByte.f (c.toNat : Int) == some true
theorem iriByte_tot (x:Int): ∃ r,term_iriByte.f x=some r:=by
 unfold term_iriByte.f;(repeat' split);all_goals exact⟨_,rfl⟩
theorem iriByte_at (c:UInt8):term_iriByte.f (c.toNat:Int)=some (iriB c):=by
 obtain⟨r,hr⟩:=iriByte_tot (c.toNat:Int);unfold iriB;rw[hr];cases r<;>rfl
theorem iriB_low {c:UInt8} (h:iriB c=true):c.toNat<128:=by
 unfold iriB at h;have h1:=beq_iff_eq.1 h;unfold term_iriByte.f at h1;(repeat' split at h1);all_goals first|(simp at h1;done)|(simp only[Option.some.injEq,decide_eq_true_eq]at h1;omega)
def term_isIri.f (a0 : ByteArray) : Option (Bool) := some (decide (0 < a0.size) && decide (a0.size ≤ 4096) && a0.data.toList.all iriB)
theorem isIri_bt (s:ByteArray) (pos:Nat) (h:pos<s.size):bt s (pos:Int)=((s.data.toList[pos]'(by rw[Array.length_toList];exact h)).toNat:Int):=by
 unfold bt;rw[dif_pos (by simpa using h)];simp;rfl
set_option maxHeartbeats 2000000 in
theorem term_isIri.calls (a0:ByteArray) (r:Bool) (w:World) (h:term_isIri.f a0=some r):
 Calls Try.prog 43 #[.string a0] w fun e w'=>e= .returned (.bool r)∧Below w.heap.size w w':=by
 have hr:=Option.some.inj h;clear h;by_cases c0:a0.toList=([]:List UInt8)
 ·have e0:a0.size=0:=by
   have:a0.data.toList= []:=(by rw[← Lib.toList_data];exact c0);have h2:a0.data.toList.length=a0.size:=Array.length_toList;rw[this]at h2;simpa using h2.symm
  have c0b:(a0.toList==([]:List UInt8))=true:=beq_iff_eq.mpr c0;have c0c:a0.toList.isEmpty=true:=(by simpa using c0);(obtain rfl:false=r:=by rw[← hr];simp[e0]);clear hr c0;go_enter Try.func43,Try.ntmps43;go_wp2;go_ret;exact⟨rfl,Below.refl _ _⟩
 ·have e0:0<a0.size:=by
   rcases Nat.eq_zero_or_pos a0.size with h0|h0
   ·exfalso;apply c0;have h2:a0.data.toList.length=a0.size:=Array.length_toList;have h3:a0.data.toList= []:=List.length_eq_zero_iff.1 (h2.trans h0);rw[Lib.toList_data];exact h3
   ·exact h0
  have c0b:(a0.toList==([]:List UInt8))=false:=beq_eq_false_iff_ne.mpr c0;have c0c:a0.toList.isEmpty=false:=(by simpa using c0);have E0:=zA e0;clear c0 e0;by_cases c1:(a0.size:Int)>4096
  ·have c1b:decide (4096<(a0.size:Int))=true:=decide_eq_true c1;have c1c:decide (4096<a0.size)=true:=decide_eq_true (by omega);(obtain rfl:false=r:=by rw[← hr,decide_eq_false (show ¬ a0.size≤4096 by omega)];simp);clear hr c1;go_enter Try.func43,Try.ntmps43;go_wp2;go_ret;exact⟨rfl,Below.refl _ _⟩
  ·have c1b:decide (4096<(a0.size:Int))=false:=decide_eq_false c1;have c1c:decide (4096<a0.size)=false:=decide_eq_false (by omega);have hr':a0.data.toList.all iriB=r:=(by rw[← hr,decide_eq_true E0.out,decide_eq_true (show a0.size≤4096 by omega)];simp);have HR:=zA hr';clear hr hr' c1;go_enter Try.func43,Try.ntmps43;go_wp2;go_loopw [] (fun w'=> ∃ pos:Nat,w'.heap[w.heap.size]? =some (.stringIter a0 pos)∧Aside0 (Below w.heap.size w w')∧Aside0 (pos≤a0.size∧(a0.data.toList.take pos).all iriB=true)) (fun w'=>a0.size - w'.iterPos w.heap.size);(case atStart=>exact⟨0,World.iter_heap w a0 0,⟨(Below.refl _ _).alloc (Nat.le_refl _) _⟩,⟨Nat.zero_le _,rfl⟩⟩);case round=>
    obtain⟨pos,hit,HB,HP⟩:=hrel;have hpos:wr.iterPos w.heap.size=pos:=(by simp[World.iterPos,hit]);by_cases hp:pos<a0.size
    ·(have hnx:=fun ty=>Lib.run_next_any_at (P:=Try.prog) wr w.heap.size a0 pos ty hit hp);have hbt:=isIri_bt a0 pos hp;have hio:=iriByte_at (a0.data.toList[pos]'(by rw[Array.length_toList];exact hp));have p5:((0:Int)≤(pos:Int))=True:=eq_true (by omega);have q5:((pos:Int)<(a0.size:Int))=True:=eq_true (by omega);have hx5:=bt_at a0 (pos:Int);rw[hbt]at hx5;have hit2:=Lib.iterAt_heap wr w.heap.size a0 pos (pos+(Utf8.decode a0 pos).2) hit;cases hi:iriB (a0.data.toList[pos]'(by rw[Array.length_toList];exact hp))with
     |false=>
      rw[hi]at hio;go_wp2_with (refine(term_iriByte.calls _ false _ hio).mono ?_;rintro e w3 ⟨rfl,⟨m3,rfl⟩⟩);go_ret;have hf:r=false:=by
       rw[← HR.out,Bool.eq_false_iff];intro hall;have:=List.all_eq_true.1 hall _ (List.getElem_mem (show pos<a0.data.toList.length by rw[Array.length_toList];exact hp));rw[hi]at this;cases this
      refine⟨by rw[hf];rfl,?_⟩;exact Lib.below_iterAt HB.out (Nat.le_refl _) a0 _|>.trans ⟨rfl,rfl,rfl,Nat.le_refl _,fun _ _=>rfl⟩
     |true=>
      rw[hi]at hio;go_wp2_with (refine(term_iriByte.calls _ true _ hio).mono ?_;rintro e w3 ⟨rfl,⟨m3,rfl⟩⟩);have hlow:=iriB_low hi;have hdec:Utf8.decode a0 pos=((a0[pos]'hp).toNat,1):=decode_ascii a0 pos hp hlow;rw[hdec]at hit2 ⊢;go_roundw;case rel=>
       refine⟨pos+1,hit2,⟨Lib.below_iterAt HB.out (Nat.le_refl _) a0 _|>.trans ⟨rfl,rfl,rfl,Nat.le_refl _,fun _ _=>rfl⟩⟩,⟨by omega,?_⟩⟩;rw[List.take_add_one,List.all_append,HP.out.2,List.getElem?_eq_getElem (show pos<a0.data.toList.length by rw[Array.length_toList];exact hp)];simpa using hi
      case measure=>
       have h5:(wr.iterAt w.heap.size a0 (pos+1)).iterPos w.heap.size=pos+1:=(by simp only[World.iterPos,hit2]);(show a0.size - (wr.iterAt w.heap.size a0 (pos+1)).iterPos w.heap.size<a0.size - wr.iterPos w.heap.size);rw[h5,hpos];omega
    ·(have hnx:=fun ty=>Lib.run_next_end_at (P:=Try.prog) wr w.heap.size a0 pos ty hit hp);go_wp2;go_ret;have hpe:pos=a0.size:=Nat.le_antisymm HP.out.1 (Nat.not_lt.1 hp);refine⟨?_,HB.out⟩;have h2:=HP.out.2;rw[hpe,List.take_of_length_le (by rw[Array.length_toList];exact Nat.le_refl _),HR.out]at h2;rw[h2];rfl
def term_letter.f (a0 : Int) : Option (Bool) := if a0 ≥ 97 then (if a0 ≤ 122 then (some true) else (if a0 ≥ 65 then (some (decide (a0 ≤ 90))) else (some false))) else (if a0 ≥ 65 then (some (decide (a0 ≤ 90))) else (some false))
theorem term_letter.calls (a0:Int) (r:Bool) (w:World) (h:term_letter.f a0=some r):
 Calls Try.prog 90 #[.int .u8 a0] w fun e w'=>e= .returned (.bool r)∧Drawn0 w w':=by
 have H:(if a0≥97 then(if a0≤122 then(some true)else(if a0≥65 then(some (decide (a0≤90)))else(some false)))else(if a0≥65 then(some (decide (a0≤90)))else(some false)))=some r:=h;clear h;by_cases c2:a0≥97
 ·rw[if_pos c2]at H;have c2b0:decide (97≤a0)=true:=decide_eq_true c2;clear c2;obtain⟨c3b0,H⟩|⟨c3b0,H⟩:=zj H
  ·obtain rfl:=Option.some.inj H;go_enter Try.func90,Try.ntmps90;go_wp2;go_ret;exact⟨by rfl,by repeat(exact Drawn0.refl _)⟩
  ·by_cases c4:a0≥65
   ·rw[if_pos c4]at H;have c4b0:decide (65≤a0)=true:=decide_eq_true c4;clear c4;obtain rfl:=Option.some.inj H;go_enter Try.func90,Try.ntmps90;go_wp2;go_ret;exact⟨by rfl,by repeat(exact Drawn0.refl _)⟩
   ·rw[if_neg c4]at H;have c4b0:decide (65≤a0)=false:=decide_eq_false c4;clear c4;obtain rfl:=Option.some.inj H;go_enter Try.func90,Try.ntmps90;go_wp2;go_ret;exact⟨by rfl,by repeat(exact Drawn0.refl _)⟩
 ·rw[if_neg c2]at H;have c2b0:decide (97≤a0)=false:=decide_eq_false c2;clear c2;by_cases c5:a0≥65
  ·rw[if_pos c5]at H;have c5b0:decide (65≤a0)=true:=decide_eq_true c5;clear c5;obtain rfl:=Option.some.inj H;go_enter Try.func90,Try.ntmps90;go_wp2;go_ret;exact⟨by rfl,by repeat(exact Drawn0.refl _)⟩
  ·rw[if_neg c5]at H;have c5b0:decide (65≤a0)=false:=decide_eq_false c5;clear c5;obtain rfl:=Option.some.inj H;go_enter Try.func90,Try.ntmps90;go_wp2;go_ret;exact⟨by rfl,by repeat(exact Drawn0.refl _)⟩
def term_digit.f (a0 : Int) : Option (Bool) := if a0 ≥ 48 then (some (decide (a0 ≤ 57))) else (some false)
theorem term_digit.calls (a0:Int) (r:Bool) (w:World) (h:term_digit.f a0=some r):
 Calls Try.prog 91 #[.int .u8 a0] w fun e w'=>e= .returned (.bool r)∧Drawn0 w w':=by
 have H:(if a0≥48 then(some (decide (a0≤57)))else(some false))=some r:=h;clear h;by_cases c2:a0≥48
 ·rw[if_pos c2]at H;have c2b0:decide (48≤a0)=true:=decide_eq_true c2;clear c2;obtain rfl:=Option.some.inj H;go_enter Try.func91,Try.ntmps91;go_wp2;go_ret;exact⟨by rfl,by repeat(exact Drawn0.refl _)⟩
 ·rw[if_neg c2]at H;have c2b0:decide (48≤a0)=false:=decide_eq_false c2;clear c2;obtain rfl:=Option.some.inj H;go_enter Try.func91,Try.ntmps91;go_wp2;go_ret;exact⟨by rfl,by repeat(exact Drawn0.refl _)⟩
end Go.Proofs.Ytcfoebkbahpnaaa.L
