import Derived.Test.YtgabadlneeffkaaGreatDoorLJx0
namespace Go.Proofs.YtgabadlneeffkaaGreatDoor.G
open Go.RowKit Go.Proofs.YtgabadlneeffkaaGreatDoorW.PrintWords Go.Proofs.YtgabadlneeffkaaGreatDoorW.PrintLast Go.Proofs.YtgabadlneeffkaaGreatDoorW.PrintMore
attribute [local go_sem] max2_int min2_int max_two min_two max_three min_three max_four min_four
set_option linter.unusedVariables false
set_option maxHeartbeats 8000000
set_option maxRecDepth 100000
set_option linter.unusedSimpArgs false
def legationref01_closing.l0 : Nat → ByteArray → Int → Option (Int)
  | 0, _, _ => none
  | k + 1, x0, x3 => if x3 < (x0.size : Int) then (if 0 ≤ x3 then (if (bt x0 x3) = 92 then (legationref01_closing.l0 k x0 (wrap64 ((wrap64 (x3 + 1)) + 1))) else (if (bt x0 x3) = 34 then (some x3) else (legationref01_closing.l0 k x0 (wrap64 (x3 + 1))))) else (none)) else (some (-1))
def legationref01_closing.f (k : Nat) (a0 : ByteArray) : Option (Int) := legationref01_closing.l0 k a0 1
theorem legationref01_closing.calls (k:Nat) (a0:ByteArray) (r:Int) (w:World) (h:legationref01_closing.f k a0=some r):
 Calls Tryz.prog 127 #[.string a0] w fun e w'=>e= .returned (.int .i64 r)∧Drawn0 w w':=by
 have H:(legationref01_closing.l0 k a0 1)=some r:=h;clear h;have H':=zA H;clear H;go_enter Tryz.func127,Tryz.ntmps127;go_wp2;go_loopg [3] k (fun kq v3 w'=> ∃ (x3_1:Int),v3= .int .i64 x3_1∧Aside0 (legationref01_closing.l0 kq a0 x3_1=some r)∧Aside0 (kq≤k)∧Drawn0 w w');(case atStart=>exact⟨(1),(by rfl),H',⟨Nat.le_refl _⟩,by repeat(exact Drawn0.refl _)⟩);case round=>
  clear H';obtain⟨x3_1,rfl,HA,HK1,⟨m1,rfl⟩⟩:=hrel;cases gk with
  |zero=>exact absurd HA.out (by simp[legationref01_closing.l0])
  |succ k1=>
   have H:=HA.out;clear HA;simp only[legationref01_closing.l0]at H;by_cases c2:x3_1<(a0.size:Int)
   ·rw[if_pos c2]at H;have c2b0:decide (x3_1<(a0.size:Int))=true:=decide_eq_true c2;clear c2;by_cases c3:0≤x3_1
    ·rw[if_pos c3]at H;have c3b0:decide (0≤x3_1)=true:=decide_eq_true c3;clear c3;by_cases c5:(bt a0 x3_1)=92
     ·rw[if_pos c5]at H;have c5b0:((bt a0 x3_1)==92)=true:=beq_iff_eq.mpr c5;clear c5;have H':=zA H;clear H;have p4:0≤(x3_1:Int):=zD;have q4:x3_1<(a0.size:Int):=zD;have hx4:=bt_at a0 x3_1;replace p4:=eq_true p4;replace q4:=eq_true q4;go_wp2;go_roundg k1;(case measure=>have:=HK1.out;omega);case rel=>exact⟨(wrap64 ((wrap64 (x3_1+1))+1)),(by rfl),H',⟨by have:=HK1.out;omega⟩,by repeat(first|exact Drawn0.refl _|apply Drawn0.step)⟩
     ·rw[if_neg c5]at H;have c5b0:((bt a0 x3_1)==92)=false:=beq_eq_false_iff_ne.mpr c5;by_cases c7:(bt a0 x3_1)=34
      ·rw[if_pos c7]at H;have c7b0:((bt a0 x3_1)==34)=true:=beq_iff_eq.mpr c7;clear c7;obtain rfl:=Option.some.inj H;have p4:0≤(x3_1:Int):=zD;have q4:x3_1<(a0.size:Int):=zD;have hx4:=bt_at a0 x3_1;replace p4:=eq_true p4;replace q4:=eq_true q4;have p6:0≤(x3_1:Int):=zD;have q6:x3_1<(a0.size:Int):=zD;have hx6:=bt_at a0 x3_1;replace p6:=eq_true p6;replace q6:=eq_true q6;go_wp2;go_ret;exact⟨by rfl,by repeat(first|exact Drawn0.refl _|apply Drawn0.step)⟩
      ·rw[if_neg c7]at H;have c7b0:((bt a0 x3_1)==34)=false:=beq_eq_false_iff_ne.mpr c7;have H':=zA H;clear H;have p4:0≤(x3_1:Int):=zD;have q4:x3_1<(a0.size:Int):=zD;have hx4:=bt_at a0 x3_1;replace p4:=eq_true p4;replace q4:=eq_true q4;have p6:0≤(x3_1:Int):=zD;have q6:x3_1<(a0.size:Int):=zD;have hx6:=bt_at a0 x3_1;replace p6:=eq_true p6;replace q6:=eq_true q6;go_wp2;go_roundg k1;(case measure=>have:=HK1.out;omega);case rel=>exact⟨(wrap64 (x3_1+1)),(by rfl),H',⟨by have:=HK1.out;omega⟩,by repeat(first|exact Drawn0.refl _|apply Drawn0.step)⟩
    ·rw[if_neg c3]at H;exact absurd H (by simp)
   ·rw[if_neg c2]at H;have c2b0:decide (x3_1<(a0.size:Int))=false:=decide_eq_false c2;clear c2;obtain rfl:=Option.some.inj H;go_wp2;go_ret;exact⟨by rfl,by repeat(first|exact Drawn0.refl _|apply Drawn0.step)⟩
mutual
def legationref01_unescaped.l0 : Nat → ByteArray → ByteArray → Int → Option (ByteArray × Bool)
  | 0, _, _, _ => none
  | k + 1, x0, x4, x5 => if x5 < (x0.size : Int) then (if 0 ≤ x5 then (if (bt x0 x5) = 92 then (if (wrap64 (x5 + 1)) ≥ (x0.size : Int) then (some ((⟨#[]⟩ : ByteArray), false)) else (if 0 ≤ (wrap64 (x5 + 1)) then (if (wrap64 (x5 + 1)) < (x0.size : Int) then (if (bt x0 (wrap64 (x5 + 1))) = 34 then (legationref01_unescaped.j1 k x0 x4 (wrap64 (x5 + 1)) (bt x0 (wrap64 (x5 + 1))) ((bt x0 (wrap64 (x5 + 1))) == 34)) else (legationref01_unescaped.j1 k x0 x4 (wrap64 (x5 + 1)) (bt x0 (wrap64 (x5 + 1))) ((bt x0 (wrap64 (x5 + 1))) == 92))) else (none)) else (none))) else (if (bt x0 x5) = 34 then (some ((⟨#[]⟩ : ByteArray), false)) else (if (bt x0 x5) = 10 then (some ((⟨#[]⟩ : ByteArray), false)) else (if (bt x0 x5) = 9 then (some ((⟨#[]⟩ : ByteArray), false)) else (if x5 ≤ (wrap64 (x5 + 1)) then (if (wrap64 (x5 + 1)) ≤ (x0.size : Int) then (if x4.size + (x0.extract (x5 : Int).toNat ((wrap64 (x5 + 1)) : Int).toNat).size ≤ 9223372036854775807 then (legationref01_unescaped.l0 k x0 (x4 ++ (x0.extract (x5 : Int).toNat ((wrap64 (x5 + 1)) : Int).toNat)) (wrap64 (x5 + 1))) else (none)) else (none)) else (none)))))) else (none)) else (some (x4, true))
def legationref01_unescaped.j1 : Nat → ByteArray → ByteArray → Int → Int → Bool → Option (ByteArray × Bool)
  | 0, _, _, _, _, _ => none
  | k + 1, x0, x4, x5, x48, x49 => if x49 = true then (if 0 ≤ x5 then (if x5 ≤ (wrap64 (x5 + 1)) then (if (wrap64 (x5 + 1)) ≤ (x0.size : Int) then (if x4.size + (x0.extract (x5 : Int).toNat ((wrap64 (x5 + 1)) : Int).toNat).size ≤ 9223372036854775807 then (legationref01_unescaped.l0 k x0 (x4 ++ (x0.extract (x5 : Int).toNat ((wrap64 (x5 + 1)) : Int).toNat)) (wrap64 (x5 + 1))) else (none)) else (none)) else (none)) else (none)) else (if x48 = 110 then (if x4.size + 1 ≤ 9223372036854775807 then (legationref01_unescaped.l0 k x0 (x4 ++ (⟨#[10]⟩ : ByteArray)) (wrap64 (x5 + 1))) else (none)) else (if x48 = 116 then (if x4.size + 1 ≤ 9223372036854775807 then (legationref01_unescaped.l0 k x0 (x4 ++ (⟨#[9]⟩ : ByteArray)) (wrap64 (x5 + 1))) else (none)) else (some ((⟨#[]⟩ : ByteArray), false))))
end
def legationref01_unescaped.f (k : Nat) (a0 : ByteArray) : Option (ByteArray × Bool) := legationref01_unescaped.l0 k a0 (⟨#[]⟩ : ByteArray) 0
theorem legationref01_unescaped.calls (k:Nat) (a0:ByteArray) (r1:ByteArray) (r2:Bool) (w:World) (h:legationref01_unescaped.f k a0=some (r1,r2)):
 Calls Tryz.prog 128 #[.string a0] w fun e w'=>e= .returned (.tuple #[.string r1,.bool r2])∧Drawn0 w w':=by
 have H:(legationref01_unescaped.l0 k a0 (⟨#[]⟩:ByteArray) 0)=some (r1,r2):=h;clear h;have H':=zA H;clear H;go_enter Tryz.func128,Tryz.ntmps128;go_wp2;go_loopg [4,5] k (fun kq v4 v5 w'=> ∃ (x4_1:ByteArray) (x5_1:Int),v4= .string x4_1∧v5= .int .i64 x5_1∧Aside0 (legationref01_unescaped.l0 kq a0 x4_1 x5_1=some (r1,r2))∧Aside0 (kq≤k)∧Drawn0 w w');(case atStart=>exact⟨((⟨#[]⟩:ByteArray)),(0),(by rfl),(by rfl),H',⟨Nat.le_refl _⟩,by repeat(exact Drawn0.refl _)⟩);case round=>
  clear H';obtain⟨x4_1,x5_1,rfl,rfl,HA,HK1,⟨m1,rfl⟩⟩:=hrel;cases gk with
  |zero=>exact absurd HA.out (by simp[legationref01_unescaped.l0])
  |succ k1=>
   have H:=HA.out;clear HA;simp only[legationref01_unescaped.l0]at H;by_cases c2:x5_1<(a0.size:Int)
   ·rw[if_pos c2]at H;have c2b0:decide (x5_1<(a0.size:Int))=true:=decide_eq_true c2;clear c2;by_cases c3:0≤x5_1
    ·rw[if_pos c3]at H;have c3b0:decide (0≤x5_1)=true:=decide_eq_true c3;clear c3;by_cases c5:(bt a0 x5_1)=92
     ·rw[if_pos c5]at H;have c5b1:((bt a0 x5_1) !=92)=false:=bne_eq_false_iff_eq.mpr c5;clear c5;by_cases c6:(wrap64 (x5_1+1))≥(a0.size:Int)
      ·rw[if_pos c6]at H;have c6b0:decide ((a0.size:Int)≤(wrap64 (x5_1+1)))=true:=decide_eq_true c6;clear c6;simp only[Option.some.injEq,Prod.mk.injEq]at H;obtain⟨rfl,rfl⟩:=H;have p4:0≤(x5_1:Int):=zD;have q4:x5_1<(a0.size:Int):=zD;have hx4:=bt_at a0 x5_1;replace p4:=eq_true p4;replace q4:=eq_true q4;go_wp2;go_ret2;exact⟨by rfl,by repeat(first|exact Drawn0.refl _|apply Drawn0.step)⟩
      ·rw[if_neg c6]at H;have c6b0:decide ((a0.size:Int)≤(wrap64 (x5_1+1)))=false:=decide_eq_false c6;clear c6;obtain⟨ji7,hji7⟩: ∃ j_:Int,(wrap64 (x5_1+1))=j_:=⟨_,rfl⟩;(replace H:(if 0≤(ji7)then(if(ji7)<(a0.size:Int)then(if(bt a0 (ji7))=34 then(legationref01_unescaped.j1 k1 a0 x4_1 ji7 (bt a0 (ji7)) ((bt a0 (ji7))==34))else(legationref01_unescaped.j1 k1 a0 x4_1 ji7 (bt a0 (ji7)) ((bt a0 (ji7))==92)))else(none))else(none))=some (r1,r2):=by(rw[hji7]at H;exact H));(try rw[hji7]at c6b0);have hji7w:(IntKind.i64.wrap (x5_1+1))=ji7:=(i64_w _).trans hji7;by_cases c8:0≤(ji7)
       ·rw[if_pos c8]at H;have c8b0:decide (0≤(ji7))=true:=decide_eq_true c8;clear c8;by_cases c9:(ji7)<(a0.size:Int)
        ·rw[if_pos c9]at H;have c9b0:decide ((ji7)<(a0.size:Int))=true:=decide_eq_true c9;clear c9;have HC11:=zA H;clear H;have p4:0≤(x5_1:Int):=zD;have q4:x5_1<(a0.size:Int):=zD;have hx4:=bt_at a0 x5_1;replace p4:=eq_true p4;replace q4:=eq_true q4;have p10:0≤((ji7):Int):=zD;have q10:(ji7)<(a0.size:Int):=zD;have hx10:=bt_at a0 (ji7);replace p10:=eq_true p10;replace q10:=eq_true q10;go_upto_if 49 with (fail)
         go_cut [49] (fun v49 wc=> ∃ (kq:Nat) (x49_10:Bool),v49= .bool x49_10∧Aside0 (legationref01_unescaped.j1 kq a0 x4_1 ji7 (bt a0 (ji7)) x49_10=some (r1,r2))∧Aside0 (kq≤k1)∧Drawn0 w wc);case first=>
          have H:=HC11.out;clear HC11;by_cases c12:(bt a0 (ji7))=34
          ·rw[if_pos c12]at H;have c12b0:((bt a0 (ji7))==34)=true:=beq_iff_eq.mpr c12;clear c12;(rw[c12b0]);have H':=zA H;clear H;go_wp2;go_meet;case rel=>exact⟨_,(((bt a0 (ji7))==34)),(by(simp[*];done)),H',⟨by have:=HK1.out;omega⟩,by repeat(first|exact Drawn0.refl _|apply Drawn0.step)⟩
          ·rw[if_neg c12]at H;have c12b0:((bt a0 (ji7))==34)=false:=beq_eq_false_iff_ne.mpr c12;(rw[c12b0]);have H':=zA H;clear H;go_wp2;go_meet;case rel=>exact⟨_,(((bt a0 (ji7))==92)),(by rfl),H',⟨by have:=HK1.out;omega⟩,by repeat(first|exact Drawn0.refl _|apply Drawn0.step)⟩
         case rest=>
          clear HC11;(try clear c2b0);(try clear c3b0);(try clear p4);(try clear q4);(try clear hx4);(try clear c5b1);(try clear c6b0);(try clear c8b0);(try clear c9b0);(try clear p10);(try clear q10);(try clear hx10);obtain⟨kq,x49_10,rfl,HA,HJ10,⟨mc10,rfl⟩⟩:=hcut;cases kq with
          |zero=>exact absurd HA.out (by simp[legationref01_unescaped.j1])
          |succ kj10=>
           have H:=HA.out;clear HA;simp only[legationref01_unescaped.j1]at H;by_cases c13:x49_10=true
           ·subst c13;rw[if_pos rfl]at H;by_cases c14:0≤ji7
            ·rw[if_pos c14]at H;have c14b0:=eq_true c14;clear c14;by_cases c15:ji7≤(wrap64 (ji7+1))
             ·rw[if_pos c15]at H;by_cases c16:(wrap64 (ji7+1))≤(a0.size:Int)
              ·rw[if_pos c16]at H;by_cases c17:x4_1.size+(a0.extract (ji7:Int).toNat ((wrap64 (ji7+1)):Int).toNat).size≤9223372036854775807
               ·rw[if_pos c17]at H;(try skip);have H':=zA H;clear H;go_wp2;go_roundg kj10;(case measure=>have:=HK1.out;have:=HJ10.out;omega);case rel=>exact⟨(x4_1++(a0.extract (ji7:Int).toNat ((wrap64 (ji7+1)):Int).toNat)),(wrap64 (ji7+1)),(by rfl),(by rfl),H',⟨by have:=HK1.out;have:=HJ10.out;omega⟩,by repeat(first|exact Drawn0.refl _|apply Drawn0.step)⟩
               ·rw[if_neg c17]at H;exact absurd H (by simp)
              ·rw[if_neg c16]at H;exact absurd H (by simp)
             ·rw[if_neg c15]at H;exact absurd H (by simp)
            ·rw[if_neg c14]at H;exact absurd H (by simp)
           ·replace c13:=Bool.eq_false_iff.mpr c13;subst c13;rw[if_neg (show ¬(false=true)by decide)]at H;by_cases c18:(bt a0 (ji7))=110
            ·rw[if_pos c18]at H;have c18b0:((bt a0 (ji7))==110)=true:=beq_iff_eq.mpr c18;clear c18;by_cases c19:x4_1.size+1≤9223372036854775807
             ·rw[if_pos c19]at H;(try have c19b2:(9223372036854775807<x4_1.size+1)=False:=eq_false (Nat.not_lt.2 c19));have H':=zA H;clear H;go_wp2;go_roundg kj10;(case measure=>have:=HK1.out;have:=HJ10.out;omega);case rel=>exact⟨(x4_1++(⟨#[10]⟩:ByteArray)),(wrap64 (ji7+1)),(by rfl),(by rfl),H',⟨by have:=HK1.out;have:=HJ10.out;omega⟩,by repeat(first|exact Drawn0.refl _|apply Drawn0.step)⟩
             ·rw[if_neg c19]at H;exact absurd H (by simp)
            ·rw[if_neg c18]at H;have c18b0:((bt a0 (ji7))==110)=false:=beq_eq_false_iff_ne.mpr c18;by_cases c20:(bt a0 (ji7))=116
             ·rw[if_pos c20]at H;have c20b0:((bt a0 (ji7))==116)=true:=beq_iff_eq.mpr c20;clear c20;by_cases c21:x4_1.size+1≤9223372036854775807
              ·rw[if_pos c21]at H;(try have c21b2:(9223372036854775807<x4_1.size+1)=False:=eq_false (Nat.not_lt.2 c21));have H':=zA H;clear H;go_wp2;go_roundg kj10;(case measure=>have:=HK1.out;have:=HJ10.out;omega);case rel=>exact⟨(x4_1++(⟨#[9]⟩:ByteArray)),(wrap64 (ji7+1)),(by rfl),(by rfl),H',⟨by have:=HK1.out;have:=HJ10.out;omega⟩,by repeat(first|exact Drawn0.refl _|apply Drawn0.step)⟩
              ·rw[if_neg c21]at H;exact absurd H (by simp)
             ·rw[if_neg c20]at H;have c20b0:((bt a0 (ji7))==116)=false:=beq_eq_false_iff_ne.mpr c20;simp only[Option.some.injEq,Prod.mk.injEq]at H;obtain⟨rfl,rfl⟩:=H;go_wp2;go_ret2;exact⟨by rfl,by repeat(first|exact Drawn0.refl _|apply Drawn0.step)⟩
        ·rw[if_neg c9]at H;exact absurd H (by simp)
       ·rw[if_neg c8]at H;exact absurd H (by simp)
     ·rw[if_neg c5]at H;have c5b1:((bt a0 x5_1) !=92)=true:=bne_iff_ne.mpr c5;by_cases c23:(bt a0 x5_1)=34
      ·rw[if_pos c23]at H;have c23b0:((bt a0 x5_1)==34)=true:=beq_iff_eq.mpr c23;clear c23;simp only[Option.some.injEq,Prod.mk.injEq]at H;obtain⟨rfl,rfl⟩:=H;have p4:0≤(x5_1:Int):=zD;have q4:x5_1<(a0.size:Int):=zD;have hx4:=bt_at a0 x5_1;replace p4:=eq_true p4;replace q4:=eq_true q4;have p22:0≤(x5_1:Int):=zD;have q22:x5_1<(a0.size:Int):=zD;have hx22:=bt_at a0 x5_1;replace p22:=eq_true p22;replace q22:=eq_true q22;go_wp2;go_ret2;exact⟨by rfl,by repeat(first|exact Drawn0.refl _|apply Drawn0.step)⟩
      ·rw[if_neg c23]at H;have c23b0:((bt a0 x5_1)==34)=false:=beq_eq_false_iff_ne.mpr c23;by_cases c25:(bt a0 x5_1)=10
       ·rw[if_pos c25]at H;have c25b0:((bt a0 x5_1)==10)=true:=beq_iff_eq.mpr c25;clear c25;simp only[Option.some.injEq,Prod.mk.injEq]at H;obtain⟨rfl,rfl⟩:=H;have p4:0≤(x5_1:Int):=zD;have q4:x5_1<(a0.size:Int):=zD;have hx4:=bt_at a0 x5_1;replace p4:=eq_true p4;replace q4:=eq_true q4;have p22:0≤(x5_1:Int):=zD;have q22:x5_1<(a0.size:Int):=zD;have hx22:=bt_at a0 x5_1;replace p22:=eq_true p22;replace q22:=eq_true q22;have p24:0≤(x5_1:Int):=zD;have q24:x5_1<(a0.size:Int):=zD;have hx24:=bt_at a0 x5_1;replace p24:=eq_true p24;replace q24:=eq_true q24;go_wp2;go_ret2;exact⟨by rfl,by repeat(first|exact Drawn0.refl _|apply Drawn0.step)⟩
       ·rw[if_neg c25]at H;have c25b0:((bt a0 x5_1)==10)=false:=beq_eq_false_iff_ne.mpr c25;by_cases c27:(bt a0 x5_1)=9
        ·rw[if_pos c27]at H;have c27b0:((bt a0 x5_1)==9)=true:=beq_iff_eq.mpr c27;clear c27;simp only[Option.some.injEq,Prod.mk.injEq]at H;obtain⟨rfl,rfl⟩:=H;have p4:0≤(x5_1:Int):=zD;have q4:x5_1<(a0.size:Int):=zD;have hx4:=bt_at a0 x5_1;replace p4:=eq_true p4;replace q4:=eq_true q4;have p22:0≤(x5_1:Int):=zD;have q22:x5_1<(a0.size:Int):=zD;have hx22:=bt_at a0 x5_1;replace p22:=eq_true p22;replace q22:=eq_true q22;have p24:0≤(x5_1:Int):=zD;have q24:x5_1<(a0.size:Int):=zD;have hx24:=bt_at a0 x5_1;replace p24:=eq_true p24;replace q24:=eq_true q24;have p26:0≤(x5_1:Int):=zD;have q26:x5_1<(a0.size:Int):=zD;have hx26:=bt_at a0 x5_1;replace p26:=eq_true p26;replace q26:=eq_true q26;go_wp2;go_ret2;exact⟨by rfl,by repeat(first|exact Drawn0.refl _|apply Drawn0.step)⟩
        ·rw[if_neg c27]at H;have c27b0:((bt a0 x5_1)==9)=false:=beq_eq_false_iff_ne.mpr c27;have c28b0:=eq_true (zD:0≤x5_1);by_cases c29:x5_1≤(wrap64 (x5_1+1))
         ·rw[if_pos c29]at H;by_cases c30:(wrap64 (x5_1+1))≤(a0.size:Int)
          ·rw[if_pos c30]at H;by_cases c31:x4_1.size+(a0.extract (x5_1:Int).toNat ((wrap64 (x5_1+1)):Int).toNat).size≤9223372036854775807
           ·rw[if_pos c31]at H;(try skip);have H':=zA H;clear H;have p4:0≤(x5_1:Int):=zD;have q4:x5_1<(a0.size:Int):=zD;have hx4:=bt_at a0 x5_1;replace p4:=eq_true p4;replace q4:=eq_true q4;have p22:0≤(x5_1:Int):=zD;have q22:x5_1<(a0.size:Int):=zD;have hx22:=bt_at a0 x5_1;replace p22:=eq_true p22;replace q22:=eq_true q22;have p24:0≤(x5_1:Int):=zD;have q24:x5_1<(a0.size:Int):=zD;have hx24:=bt_at a0 x5_1;replace p24:=eq_true p24;replace q24:=eq_true q24;have p26:0≤(x5_1:Int):=zD;have q26:x5_1<(a0.size:Int):=zD;have hx26:=bt_at a0 x5_1;replace p26:=eq_true p26;replace q26:=eq_true q26;go_wp2;go_roundg k1;(case measure=>have:=HK1.out;omega);case rel=>exact⟨(x4_1++(a0.extract (x5_1:Int).toNat ((wrap64 (x5_1+1)):Int).toNat)),(wrap64 (x5_1+1)),(by rfl),(by rfl),H',⟨by have:=HK1.out;omega⟩,by repeat(first|exact Drawn0.refl _|apply Drawn0.step)⟩
           ·rw[if_neg c31]at H;exact absurd H (by simp)
          ·rw[if_neg c30]at H;exact absurd H (by simp)
         ·rw[if_neg c29]at H;exact absurd H (by simp)
    ·rw[if_neg c3]at H;exact absurd H (by simp)
   ·rw[if_neg c2]at H;have c2b0:decide (x5_1<(a0.size:Int))=false:=decide_eq_false c2;clear c2;simp only[Option.some.injEq,Prod.mk.injEq]at H;obtain⟨rfl,rfl⟩:=H;go_wp2;go_ret2;exact⟨by rfl,by repeat(first|exact Drawn0.refl _|apply Drawn0.step)⟩
end Go.Proofs.YtgabadlneeffkaaGreatDoor.G
