import Derived.Test.YtgabadlneeffkaaGreatDoorLJx0
namespace Go.Proofs.YtgabadlneeffkaaGreatDoor.G
open Go.RowKit Go.Proofs.YtgabadlneeffkaaGreatDoorW.PrintWords Go.Proofs.YtgabadlneeffkaaGreatDoorW.PrintLast Go.Proofs.YtgabadlneeffkaaGreatDoorW.PrintMore
attribute [local go_sem] max2_int min2_int max_two min_two max_three min_three max_four min_four
set_option linter.unusedVariables false
set_option maxHeartbeats 8000000
set_option maxRecDepth 100000
set_option linter.unusedSimpArgs false
def term_letter.f (a0 : Int) : Option (Bool) := if a0 ≥ 97 then (if a0 ≤ 122 then (some true) else (if a0 ≥ 65 then (some (decide (a0 ≤ 90))) else (some false))) else (if a0 ≥ 65 then (some (decide (a0 ≤ 90))) else (some false))
theorem term_letter.calls (a0:Int) (r:Bool) (w:World) (h:term_letter.f a0=some r):
 Calls Tryz.prog 80 #[.int .u8 a0] w fun e w'=>e= .returned (.bool r)∧Drawn0 w w':=by
 have H:(if a0≥97 then(if a0≤122 then(some true)else(if a0≥65 then(some (decide (a0≤90)))else(some false)))else(if a0≥65 then(some (decide (a0≤90)))else(some false)))=some r:=h;clear h;by_cases c2:a0≥97
 ·rw[if_pos c2]at H;have c2b0:decide (97≤a0)=true:=decide_eq_true c2;clear c2;by_cases c3:a0≤122
  ·rw[if_pos c3]at H;have c3b0:decide (a0≤122)=true:=decide_eq_true c3;clear c3;obtain rfl:=Option.some.inj H;go_enter Tryz.func80,Tryz.ntmps80;go_wp2;go_ret;exact⟨by rfl,by repeat(exact Drawn0.refl _)⟩
  ·rw[if_neg c3]at H;have c3b0:decide (a0≤122)=false:=decide_eq_false c3;clear c3;by_cases c4:a0≥65
   ·rw[if_pos c4]at H;have c4b0:decide (65≤a0)=true:=decide_eq_true c4;clear c4;obtain rfl:=Option.some.inj H;go_enter Tryz.func80,Tryz.ntmps80;go_wp2;go_ret;exact⟨by rfl,by repeat(exact Drawn0.refl _)⟩
   ·rw[if_neg c4]at H;have c4b0:decide (65≤a0)=false:=decide_eq_false c4;clear c4;obtain rfl:=Option.some.inj H;go_enter Tryz.func80,Tryz.ntmps80;go_wp2;go_ret;exact⟨by rfl,by repeat(exact Drawn0.refl _)⟩
 ·rw[if_neg c2]at H;have c2b0:decide (97≤a0)=false:=decide_eq_false c2;clear c2;by_cases c5:a0≥65
  ·rw[if_pos c5]at H;have c5b0:decide (65≤a0)=true:=decide_eq_true c5;clear c5;obtain rfl:=Option.some.inj H;go_enter Tryz.func80,Tryz.ntmps80;go_wp2;go_ret;exact⟨by rfl,by repeat(exact Drawn0.refl _)⟩
  ·rw[if_neg c5]at H;have c5b0:decide (65≤a0)=false:=decide_eq_false c5;clear c5;obtain rfl:=Option.some.inj H;go_enter Tryz.func80,Tryz.ntmps80;go_wp2;go_ret;exact⟨by rfl,by repeat(exact Drawn0.refl _)⟩
def term_digit.f (a0 : Int) : Option (Bool) := if a0 ≥ 48 then (some (decide (a0 ≤ 57))) else (some false)
theorem term_digit.calls (a0:Int) (r:Bool) (w:World) (h:term_digit.f a0=some r):
 Calls Tryz.prog 81 #[.int .u8 a0] w fun e w'=>e= .returned (.bool r)∧Drawn0 w w':=by
 have H:(if a0≥48 then(some (decide (a0≤57)))else(some false))=some r:=h;clear h;by_cases c2:a0≥48
 ·rw[if_pos c2]at H;have c2b0:decide (48≤a0)=true:=decide_eq_true c2;clear c2;obtain rfl:=Option.some.inj H;go_enter Tryz.func81,Tryz.ntmps81;go_wp2;go_ret;exact⟨by rfl,by repeat(exact Drawn0.refl _)⟩
 ·rw[if_neg c2]at H;have c2b0:decide (48≤a0)=false:=decide_eq_false c2;clear c2;obtain rfl:=Option.some.inj H;go_enter Tryz.func81,Tryz.ntmps81;go_wp2;go_ret;exact⟨by rfl,by repeat(exact Drawn0.refl _)⟩
mutual
def term_named.j0 : Nat → ByteArray → Bool → Option (Int)
  | 0, _, _ => none
  | k + 1, x0, x11 => if x11 = true then (some 0) else (term_named.l0 k x0 1)
def term_named.l0 : Nat → ByteArray → Int → Option (Int)
  | 0, _, _ => none
  | k + 1, x0, x3 => if x3 < (x0.size : Int) then (if x3 < 32 then (if 0 ≤ x3 then ((term_letter.f (bt x0 x3)).bind fun t102 => (if t102 = true then (term_named.l0 k x0 (wrap64 (x3 + 1))) else ((term_digit.f (bt x0 x3)).bind fun t103 => (if t103 = true then (term_named.l0 k x0 (wrap64 (x3 + 1))) else (if (bt x0 x3) = 95 then (term_named.l0 k x0 (wrap64 (x3 + 1))) else (some x3)))))) else (none)) else (some x3)) else (some x3)
end
def term_named.f (k : Nat) (a0 : ByteArray) : Option (Int) := if a0.toList = ([] : List UInt8) then (term_named.j0 k a0 true) else (if 0 < (a0.size : Int) then ((term_letter.f (bt a0 0)).bind fun t101 => (term_named.j0 k a0 (!t101))) else (none))
theorem term_named.calls (k:Nat) (a0:ByteArray) (r:Int) (w:World) (h:term_named.f k a0=some r):
 Calls Tryz.prog 56 #[.string a0] w fun e w'=>e= .returned (.int .i64 r)∧Drawn0 w w':=by
 have H:(if a0.toList=([]:List UInt8)then(term_named.j0 k a0 true)else(if 0<(a0.size:Int)then((term_letter.f (bt a0 0)).bind fun t101=>(term_named.j0 k a0 (!t101)))else(none)))=some r:=h;clear h;have HC2:=zA H;clear H;go_enter Tryz.func56,Tryz.ntmps56;go_upto_region 1 with (fail)
 go_cut [11] (fun v11 wc=> ∃ (kq:Nat) (x11_1:Bool),v11= .bool x11_1∧Aside0 (term_named.j0 kq a0 x11_1=some r)∧Aside0 (kq≤k)∧Drawn0 w wc);case first=>
  have H:=HC2.out;clear HC2;by_cases c3:a0.toList=([]:List UInt8)
  ·rw[if_pos c3]at H;have c3b0:(a0.toList==([]:List UInt8))=true:=beq_iff_eq.mpr c3;clear c3;have H':=zA H;clear H;go_wp2;go_meet;case rel=>exact⟨_,(true),(by rfl),H',⟨by omega⟩,by repeat(exact Drawn0.refl _)⟩
  ·rw[if_neg c3]at H;have c3b0:(a0.toList==([]:List UInt8))=false:=beq_eq_false_iff_ne.mpr c3;by_cases c4:0<(a0.size:Int)
   ·rw[if_pos c4]at H;have c4b0:decide (0<(a0.size:Int))=true:=decide_eq_true c4;clear c4;replace H:=zO H;obtain⟨t101,A60,H⟩:=H;have A6:=zA A60;clear A60;have H':=zA H;clear H;have q5:0<a0.size:=(by have:(0:Int)<(a0.size:Int):=zD;omega);have hx5: ∀ h:0<a0.size,((a0[0]'h).toNat:Int)=bt a0 0:=bt_at a0 0;have qi5:(0<(a0.size:Int))=True:=eq_true (zD);replace q5:=eq_true q5;go_wp2_with ((go_at_call 80;(with_reducible refine(term_letter.calls (bt a0 0) t101 _ A6.out).mono ?_);rintro e w' ⟨rfl,⟨nd,rfl⟩⟩));go_meet;case rel=>exact⟨_,(!t101),(by rfl),H',⟨by omega⟩,by repeat(first|exact Drawn0.refl _|apply Drawn0.step)⟩
   ·rw[if_neg c4]at H;exact absurd H (by simp)
 case rest=>
  clear HC2;obtain⟨kq,x11_1,rfl,HA,HJ1,⟨mc1,rfl⟩⟩:=hcut;cases kq with
  |zero=>exact absurd HA.out (by simp[term_named.j0])
  |succ kj1=>
   have H:=HA.out;clear HA;simp only[term_named.j0]at H;by_cases c7:x11_1=true
   ·subst c7;rw[if_pos rfl]at H;obtain rfl:=Option.some.inj H;go_wp2;go_ret;exact⟨by rfl,by repeat(first|exact Drawn0.refl _|apply Drawn0.step)⟩
   ·replace c7:=Bool.eq_false_iff.mpr c7;subst c7;rw[if_neg (show ¬(false=true)by decide)]at H;have H':=zA H;clear H;go_wp2;go_loopg [3] kj1 (fun kq v3 w'=> ∃ (x3_2:Int),v3= .int .i64 x3_2∧Aside0 (term_named.l0 kq a0 x3_2=some r)∧Aside0 (kq≤kj1)∧Drawn0 w w');(case atStart=>exact⟨(1),(by rfl),H',⟨Nat.le_refl _⟩,by repeat(first|exact Drawn0.refl _|apply Drawn0.step)⟩);case round=>
     clear H';obtain⟨x3_2,rfl,HA,HK2,⟨m2,rfl⟩⟩:=hrel;cases gk with
     |zero=>exact absurd HA.out (by simp[term_named.l0])
     |succ k2=>
      have H:=HA.out;clear HA;simp only[term_named.l0]at H;by_cases c8:x3_2<(a0.size:Int)
      ·rw[if_pos c8]at H;have c8b0:decide (x3_2<(a0.size:Int))=true:=decide_eq_true c8;clear c8;by_cases c9:x3_2<32
       ·rw[if_pos c9]at H;have c9b0:decide (x3_2<32)=true:=decide_eq_true c9;clear c9;by_cases c10:0≤x3_2
        ·rw[if_pos c10]at H;have c10b0:decide (0≤x3_2)=true:=decide_eq_true c10;clear c10;replace H:=zO H;obtain⟨t102,A120,H⟩:=H;have A12:=zA A120;clear A120;by_cases c13:t102=true
         ·subst c13;rw[if_pos rfl]at H;have H':=zA H;clear H;have p11:0≤(x3_2:Int):=zD;have q11:x3_2<(a0.size:Int):=zD;have hx11:=bt_at a0 x3_2;replace p11:=eq_true p11;replace q11:=eq_true q11;go_wp2_with ((go_at_call 80;(with_reducible refine(term_letter.calls (bt a0 x3_2) true _ A12.out).mono ?_);rintro e w' ⟨rfl,⟨nd,rfl⟩⟩));go_roundg k2;(case measure=>have:=HJ1.out;have:=HK2.out;omega);case rel=>exact⟨(wrap64 (x3_2+1)),(by rfl),H',⟨by have:=HJ1.out;have:=HK2.out;omega⟩,by repeat(first|exact Drawn0.refl _|apply Drawn0.step)⟩
         ·replace c13:=Bool.eq_false_iff.mpr c13;subst c13;rw[if_neg (show ¬(false=true)by decide)]at H;replace H:=zO H;obtain⟨t103,A150,H⟩:=H;have A15:=zA A150;clear A150;by_cases c16:t103=true
          ·subst c16;rw[if_pos rfl]at H;have H':=zA H;clear H;have p11:0≤(x3_2:Int):=zD;have q11:x3_2<(a0.size:Int):=zD;have hx11:=bt_at a0 x3_2;replace p11:=eq_true p11;replace q11:=eq_true q11;go_wp2_with (first|(go_at_call 80;(with_reducible refine(term_letter.calls (bt a0 x3_2) false _ A12.out).mono ?_);rintro e w' ⟨rfl,⟨nd,rfl⟩⟩;have p14:0≤(x3_2:Int):=zD;have q14:x3_2<(a0.size:Int):=zD;have hx14:=bt_at a0 x3_2;replace p14:=eq_true p14;replace q14:=eq_true q14)|(go_at_call 81;(with_reducible refine(term_digit.calls (bt a0 x3_2) true _ A15.out).mono ?_);rintro e w' ⟨rfl,⟨nd,rfl⟩⟩));go_roundg k2;(case measure=>have:=HJ1.out;have:=HK2.out;omega);case rel=>exact⟨(wrap64 (x3_2+1)),(by rfl),H',⟨by have:=HJ1.out;have:=HK2.out;omega⟩,by repeat(first|exact Drawn0.refl _|apply Drawn0.step)⟩
          ·replace c16:=Bool.eq_false_iff.mpr c16;subst c16;rw[if_neg (show ¬(false=true)by decide)]at H;by_cases c18:(bt a0 x3_2)=95
           ·rw[if_pos c18]at H;have c18b0:((bt a0 x3_2)==95)=true:=beq_iff_eq.mpr c18;clear c18;have H':=zA H;clear H;have p11:0≤(x3_2:Int):=zD;have q11:x3_2<(a0.size:Int):=zD;have hx11:=bt_at a0 x3_2;replace p11:=eq_true p11;replace q11:=eq_true q11;go_wp2_with (first|(go_at_call 80;(with_reducible refine(term_letter.calls (bt a0 x3_2) false _ A12.out).mono ?_);rintro e w' ⟨rfl,⟨nd,rfl⟩⟩;have p14:0≤(x3_2:Int):=zD;have q14:x3_2<(a0.size:Int):=zD;have hx14:=bt_at a0 x3_2;replace p14:=eq_true p14;replace q14:=eq_true q14)|(go_at_call 81;(with_reducible refine(term_digit.calls (bt a0 x3_2) false _ A15.out).mono ?_);rintro e w' ⟨rfl,⟨nd,rfl⟩⟩;have p17:0≤(x3_2:Int):=zD;have q17:x3_2<(a0.size:Int):=zD;have hx17:=bt_at a0 x3_2;replace p17:=eq_true p17;replace q17:=eq_true q17));go_roundg k2;(case measure=>have:=HJ1.out;have:=HK2.out;omega);case rel=>exact⟨(wrap64 (x3_2+1)),(by rfl),H',⟨by have:=HJ1.out;have:=HK2.out;omega⟩,by repeat(first|exact Drawn0.refl _|apply Drawn0.step)⟩
           ·rw[if_neg c18]at H;have c18b0:((bt a0 x3_2)==95)=false:=beq_eq_false_iff_ne.mpr c18;obtain rfl:=Option.some.inj H;have p11:0≤(x3_2:Int):=zD;have q11:x3_2<(a0.size:Int):=zD;have hx11:=bt_at a0 x3_2;replace p11:=eq_true p11;replace q11:=eq_true q11;go_wp2_with (first|(go_at_call 80;(with_reducible refine(term_letter.calls (bt a0 x3_2) false _ A12.out).mono ?_);rintro e w' ⟨rfl,⟨nd,rfl⟩⟩;have p14:0≤(x3_2:Int):=zD;have q14:x3_2<(a0.size:Int):=zD;have hx14:=bt_at a0 x3_2;replace p14:=eq_true p14;replace q14:=eq_true q14)|(go_at_call 81;(with_reducible refine(term_digit.calls (bt a0 x3_2) false _ A15.out).mono ?_);rintro e w' ⟨rfl,⟨nd,rfl⟩⟩;have p17:0≤(x3_2:Int):=zD;have q17:x3_2<(a0.size:Int):=zD;have hx17:=bt_at a0 x3_2;replace p17:=eq_true p17;replace q17:=eq_true q17));go_ret;exact⟨by rfl,by repeat(first|exact Drawn0.refl _|apply Drawn0.step)⟩
        ·rw[if_neg c10]at H;exact absurd H (by simp)
       ·rw[if_neg c9]at H;have c9b0:decide (x3_2<32)=false:=decide_eq_false c9;clear c9;obtain rfl:=Option.some.inj H;go_wp2;go_ret;exact⟨by rfl,by repeat(first|exact Drawn0.refl _|apply Drawn0.step)⟩
      ·rw[if_neg c8]at H;have c8b0:decide (x3_2<(a0.size:Int))=false:=decide_eq_false c8;clear c8;obtain rfl:=Option.some.inj H;go_wp2;go_ret;exact⟨by rfl,by repeat(first|exact Drawn0.refl _|apply Drawn0.step)⟩
def term_IsName.f (k : Nat) (a0 : ByteArray) : Option (Bool) := if a0.toList = ([] : List UInt8) then (some false) else ((term_named.f k a0).bind fun t104 => (some (t104 == (a0.size : Int))))
theorem term_IsName.calls (k:Nat) (a0:ByteArray) (r:Bool) (w:World) (h:term_IsName.f k a0=some r):
 Calls Tryz.prog 34 #[.string a0] w fun e w'=>e= .returned (.bool r)∧Drawn0 w w':=by
 have H:(if a0.toList=([]:List UInt8)then(some false)else((term_named.f k a0).bind fun t104=>(some (t104==(a0.size:Int)))))=some r:=h;clear h;by_cases c2:a0.toList=([]:List UInt8)
 ·rw[if_pos c2]at H;have c2b0:(a0.toList==([]:List UInt8))=true:=beq_iff_eq.mpr c2;clear c2;obtain rfl:=Option.some.inj H;go_enter Tryz.func34,Tryz.ntmps34;go_wp2;go_ret;exact⟨by rfl,by repeat(exact Drawn0.refl _)⟩
 ·rw[if_neg c2]at H;have c2b0:(a0.toList==([]:List UInt8))=false:=beq_eq_false_iff_ne.mpr c2;replace H:=zO H;obtain⟨t104,A30,H⟩:=H;have A3:=zA A30;clear A30;obtain rfl:=Option.some.inj H;go_enter Tryz.func34,Tryz.ntmps34;go_wp2_with ((go_at_call 56;(with_reducible refine(term_named.calls k a0 t104 _ A3.out).mono ?_);rintro e w' ⟨rfl,⟨nd,rfl⟩⟩));go_ret;exact⟨by rfl,by repeat(first|exact Drawn0.refl _|apply Drawn0.step)⟩
def slices_Index_string_string.l0 : Nat → List ByteArray → ByteArray → Int → Int → Option (Int)
  | 0, _, _, _, _ => none
  | k + 1, x0, x1, x7, x8 => if x8 < x7 then (if 0 ≤ x8 then (if x8 < (x0.length : Int) then (if x1.toList = (rdOf ByteArray.empty x0 x8).toList then (some x8) else (slices_Index_string_string.l0 k x0 x1 x7 (wrap64 (x8 + 1)))) else (none)) else (none)) else (some (-1))
def slices_Index_string_string.f (k : Nat) (l0 : List ByteArray) (a1 : ByteArray) : Option (Int) := slices_Index_string_string.l0 k l0 a1 (l0.length : Int) 0
theorem slices_Index_string_string.calls (k:Nat) (A0:Option Addr) (c0:Nat) (l0:List ByteArray) (a1:ByteArray) (r:Int) (w:World) (hr0:Kd.C Kd.string w A0 l0.length l0) (hc0:l0.length≤c0) (h:slices_Index_string_string.f k l0 a1=some r):
 Calls Tryz.prog 57 #[.slice A0 l0.length c0,.string a1] w fun e w'=>e= .returned (.int .i64 r)∧Drawn0 w w':=by
 have HR0:=zA hr0;have HC0:=zA hc0;clear hr0 hc0;have H:(slices_Index_string_string.l0 k l0 a1 (l0.length:Int) 0)=some r:=h;clear h;have H':=zA H;clear H;go_enter Tryz.func57,Tryz.ntmps57;go_wp2;go_loopg [8] k (fun kq v8 w'=> ∃ (x8_1:Int),v8= .int .i64 x8_1∧Aside0 (slices_Index_string_string.l0 kq l0 a1 (l0.length:Int) x8_1=some r)∧Aside0 (kq≤k)∧Drawn0 w w');(case atStart=>exact⟨(0),(by rfl),H',⟨Nat.le_refl _⟩,by repeat(exact Drawn0.refl _)⟩);case round=>
  clear H';obtain⟨x8_1,rfl,HA,HK1,⟨m1,rfl⟩⟩:=hrel;cases gk with
  |zero=>exact absurd HA.out (by simp[slices_Index_string_string.l0])
  |succ k1=>
   have H:=HA.out;clear HA;simp only[slices_Index_string_string.l0]at H;by_cases c3:x8_1<(l0.length:Int)
   ·rw[if_pos c3]at H;have c3b0:decide (x8_1<(l0.length:Int))=true:=decide_eq_true c3;clear c3;by_cases c4:0≤x8_1
    ·rw[if_pos c4]at H;have c4b0:decide (0≤x8_1)=true:=decide_eq_true c4;clear c4;by_cases c5:x8_1<(l0.length:Int)
     ·rw[if_pos c5]at H;have c5b0:decide (x8_1<(l0.length:Int))=true:=decide_eq_true c5;clear c5;by_cases c6:a1.toList=(rdOf ByteArray.empty l0 x8_1).toList
      ·rw[if_pos c6]at H;have c6b0:(a1.toList==(rdOf ByteArray.empty l0 x8_1).toList)=true:=beq_iff_eq.mpr c6;clear c6;obtain rfl:=Option.some.inj H;have p105:0≤(x8_1:Int):=zD;have q105:x8_1<(l0.length:Int):=zD;obtain⟨ad105,e105,hx105_0⟩:=Kd.at_string HR0.out x8_1 p105 q105;cases e105
       replace p105:=eq_true p105;replace q105:=eq_true q105;go_wp2;go_ret;exact⟨by rfl,by repeat(first|exact Drawn0.refl _|apply Drawn0.step)⟩
      ·rw[if_neg c6]at H;have c6b0:(a1.toList==(rdOf ByteArray.empty l0 x8_1).toList)=false:=beq_eq_false_iff_ne.mpr c6;have H':=zA H;clear H;have p105:0≤(x8_1:Int):=zD;have q105:x8_1<(l0.length:Int):=zD;obtain⟨ad105,e105,hx105_0⟩:=Kd.at_string HR0.out x8_1 p105 q105;cases e105
       replace p105:=eq_true p105;replace q105:=eq_true q105;go_wp2;go_roundg k1;(case measure=>have:=HK1.out;omega);case rel=>exact⟨(wrap64 (x8_1+1)),(by rfl),H',⟨by have:=HK1.out;omega⟩,by repeat(first|exact Drawn0.refl _|apply Drawn0.step)⟩
     ·rw[if_neg c5]at H;exact absurd H (by simp)
    ·rw[if_neg c4]at H;exact absurd H (by simp)
   ·rw[if_neg c3]at H;have c3b0:decide (x8_1<(l0.length:Int))=false:=decide_eq_false c3;clear c3;obtain rfl:=Option.some.inj H;go_wp2;go_ret;exact⟨by rfl,by repeat(first|exact Drawn0.refl _|apply Drawn0.step)⟩
def slices_Contains_string_string.f (k : Nat) (l0 : List ByteArray) (a1 : ByteArray) : Option (Bool) := (slices_Index_string_string.f k l0 a1).bind fun t106 => (some (decide (t106 ≥ 0)))
theorem slices_Contains_string_string.calls (k:Nat) (A0:Option Addr) (c0:Nat) (l0:List ByteArray) (a1:ByteArray) (r:Bool) (w:World) (hr0:Kd.C Kd.string w A0 l0.length l0) (hc0:l0.length≤c0) (h:slices_Contains_string_string.f k l0 a1=some r):
 Calls Tryz.prog 35 #[.slice A0 l0.length c0,.string a1] w fun e w'=>e= .returned (.bool r)∧Drawn0 w w':=by
 have HR0:=zA hr0;have HC0:=zA hc0;clear hr0 hc0;have H:((slices_Index_string_string.f k l0 a1).bind fun t106=>(some (decide (t106≥0))))=some r:=h;clear h;replace H:=zO H;obtain⟨t106,A30,H⟩:=H;have A3:=zA A30;clear A30;obtain rfl:=Option.some.inj H;go_enter Tryz.func35,Tryz.ntmps35;go_wp2_with (((with_reducible refine gate_callee (f:=57) rfl ?_);refine zX (some 7) Tryz.func57 #[.slice A0 l0.length c0,.string a1] ?_;(with_reducible refine(slices_Index_string_string.calls k _ _ l0 a1 t106 _ ?side1 ?side2 A3.out).mono ?_);(case side1=>repeat(exact HR0.out));(case side2=>exact HC0.out);rintro e w' ⟨rfl,⟨nd,rfl⟩⟩;refine⟨_,rfl,?_⟩));go_ret;exact⟨by rfl,by repeat(first|exact Drawn0.refl _|apply Drawn0.step)⟩
def term_iriByte.f (a0 : Int) : Option (Bool) := if a0 = 60 then (some false) else (if a0 = 62 then (some false) else (if a0 = 34 then (some false) else (if a0 = 123 then (some false) else (if a0 = 125 then (some false) else (if a0 = 124 then (some false) else (if a0 = 94 then (some false) else (if a0 = 96 then (some false) else (if a0 = 92 then (some false) else (if a0 ≥ 33 then (some (decide (a0 ≤ 126))) else (some false))))))))))
theorem term_iriByte.calls (a0:Int) (r:Bool) (w:World) (h:term_iriByte.f a0=some r):
 Calls Tryz.prog 82 #[.int .u8 a0] w fun e w'=>e= .returned (.bool r)∧Drawn0 w w':=by
 have H:(if a0=60 then(some false)else(if a0=62 then(some false)else(if a0=34 then(some false)else(if a0=123 then(some false)else(if a0=125 then(some false)else(if a0=124 then(some false)else(if a0=94 then(some false)else(if a0=96 then(some false)else(if a0=92 then(some false)else(if a0≥33 then(some (decide (a0≤126)))else(some false)))))))))))=some r:=h;clear h;by_cases c2:a0=60
 ·rw[if_pos c2]at H;have c2b0:(a0==60)=true:=beq_iff_eq.mpr c2;clear c2;obtain rfl:=Option.some.inj H;go_enter Tryz.func82,Tryz.ntmps82;go_wp2;go_ret;exact⟨by rfl,by repeat(exact Drawn0.refl _)⟩
 ·rw[if_neg c2]at H;have c2b0:(a0==60)=false:=beq_eq_false_iff_ne.mpr c2;by_cases c3:a0=62
  ·rw[if_pos c3]at H;have c3b0:(a0==62)=true:=beq_iff_eq.mpr c3;clear c3;obtain rfl:=Option.some.inj H;go_enter Tryz.func82,Tryz.ntmps82;go_wp2;go_ret;exact⟨by rfl,by repeat(exact Drawn0.refl _)⟩
  ·rw[if_neg c3]at H;have c3b0:(a0==62)=false:=beq_eq_false_iff_ne.mpr c3;by_cases c4:a0=34
   ·rw[if_pos c4]at H;have c4b0:(a0==34)=true:=beq_iff_eq.mpr c4;clear c4;obtain rfl:=Option.some.inj H;go_enter Tryz.func82,Tryz.ntmps82;go_wp2;go_ret;exact⟨by rfl,by repeat(exact Drawn0.refl _)⟩
   ·rw[if_neg c4]at H;have c4b0:(a0==34)=false:=beq_eq_false_iff_ne.mpr c4;by_cases c5:a0=123
    ·rw[if_pos c5]at H;have c5b0:(a0==123)=true:=beq_iff_eq.mpr c5;clear c5;obtain rfl:=Option.some.inj H;go_enter Tryz.func82,Tryz.ntmps82;go_wp2;go_ret;exact⟨by rfl,by repeat(exact Drawn0.refl _)⟩
    ·rw[if_neg c5]at H;have c5b0:(a0==123)=false:=beq_eq_false_iff_ne.mpr c5;by_cases c6:a0=125
     ·rw[if_pos c6]at H;have c6b0:(a0==125)=true:=beq_iff_eq.mpr c6;clear c6;obtain rfl:=Option.some.inj H;go_enter Tryz.func82,Tryz.ntmps82;go_wp2;go_ret;exact⟨by rfl,by repeat(exact Drawn0.refl _)⟩
     ·rw[if_neg c6]at H;have c6b0:(a0==125)=false:=beq_eq_false_iff_ne.mpr c6;by_cases c7:a0=124
      ·rw[if_pos c7]at H;have c7b0:(a0==124)=true:=beq_iff_eq.mpr c7;clear c7;obtain rfl:=Option.some.inj H;go_enter Tryz.func82,Tryz.ntmps82;go_wp2;go_ret;exact⟨by rfl,by repeat(exact Drawn0.refl _)⟩
      ·rw[if_neg c7]at H;have c7b0:(a0==124)=false:=beq_eq_false_iff_ne.mpr c7;by_cases c8:a0=94
       ·rw[if_pos c8]at H;have c8b0:(a0==94)=true:=beq_iff_eq.mpr c8;clear c8;obtain rfl:=Option.some.inj H;go_enter Tryz.func82,Tryz.ntmps82;go_wp2;go_ret;exact⟨by rfl,by repeat(exact Drawn0.refl _)⟩
       ·rw[if_neg c8]at H;have c8b0:(a0==94)=false:=beq_eq_false_iff_ne.mpr c8;by_cases c9:a0=96
        ·rw[if_pos c9]at H;have c9b0:(a0==96)=true:=beq_iff_eq.mpr c9;clear c9;obtain rfl:=Option.some.inj H;go_enter Tryz.func82,Tryz.ntmps82;go_wp2;go_ret;exact⟨by rfl,by repeat(exact Drawn0.refl _)⟩
        ·rw[if_neg c9]at H;have c9b0:(a0==96)=false:=beq_eq_false_iff_ne.mpr c9;by_cases c10:a0=92
         ·rw[if_pos c10]at H;have c10b0:(a0==92)=true:=beq_iff_eq.mpr c10;clear c10;obtain rfl:=Option.some.inj H;go_enter Tryz.func82,Tryz.ntmps82;go_wp2;go_ret;exact⟨by rfl,by repeat(exact Drawn0.refl _)⟩
         ·rw[if_neg c10]at H;have c10b0:(a0==92)=false:=beq_eq_false_iff_ne.mpr c10;by_cases c11:a0≥33
          ·rw[if_pos c11]at H;have c11b0:decide (33≤a0)=true:=decide_eq_true c11;clear c11;obtain rfl:=Option.some.inj H;go_enter Tryz.func82,Tryz.ntmps82;go_wp2;go_ret;exact⟨by rfl,by repeat(exact Drawn0.refl _)⟩
          ·rw[if_neg c11]at H;have c11b0:decide (33≤a0)=false:=decide_eq_false c11;clear c11;obtain rfl:=Option.some.inj H;go_enter Tryz.func82,Tryz.ntmps82;go_wp2;go_ret;exact⟨by rfl,by repeat(exact Drawn0.refl _)⟩
def iriB (c : UInt8) : Bool := term_iriByte.f (c.toNat : Int) == some true
theorem iriByte_tot (x:Int): ∃ r,term_iriByte.f x=some r:=by
 unfold term_iriByte.f;(repeat' split);all_goals exact⟨_,rfl⟩
theorem iriByte_at (c:UInt8):term_iriByte.f (c.toNat:Int)=some (iriB c):=by
 obtain⟨r,hr⟩:=iriByte_tot (c.toNat:Int);unfold iriB;rw[hr];cases r<;>rfl
theorem iriB_low {c:UInt8} (h:iriB c=true):c.toNat<128:=by
 unfold iriB at h;have h1:=beq_iff_eq.1 h;unfold term_iriByte.f at h1;(repeat' split at h1);all_goals first|(simp at h1;done)|(simp only[Option.some.injEq,decide_eq_true_eq]at h1;omega)
def term_isIri.f (a0 : ByteArray) : Option (Bool) := some (decide (0 < a0.size) && decide (a0.size ≤ 4096) && a0.data.toList.all iriB)
theorem isIri_bt (s:ByteArray) (pos:Nat) (h:pos<s.size):bt s (pos:Int)=((s.data.toList[pos]'(by rw[Array.length_toList];exact h)).toNat:Int):=by
 unfold bt;rw[dif_pos (by simpa using h)];simp;rfl
set_option maxHeartbeats 2000000 in
theorem term_isIri.calls (a0:ByteArray) (r:Bool) (w:World) (h:term_isIri.f a0=some r):
 Calls Tryz.prog 58 #[.string a0] w fun e w'=>e= .returned (.bool r)∧Below w.heap.size w w':=by
 have hr:=Option.some.inj h;clear h;by_cases c0:a0.toList=([]:List UInt8)
 ·have e0:a0.size=0:=by
   have:a0.data.toList= []:=(by rw[← Lib.toList_data];exact c0);have h2:a0.data.toList.length=a0.size:=Array.length_toList;rw[this]at h2;simpa using h2.symm
  have c0b:(a0.toList==([]:List UInt8))=true:=beq_iff_eq.mpr c0;have c0c:a0.toList.isEmpty=true:=(by simpa using c0);(obtain rfl:false=r:=by rw[← hr];simp[e0]);clear hr c0;go_enter Tryz.func58,Tryz.ntmps58;go_wp2;go_ret;exact⟨rfl,Below.refl _ _⟩
 ·have e0:0<a0.size:=by
   rcases Nat.eq_zero_or_pos a0.size with h0|h0
   ·exfalso;apply c0;have h2:a0.data.toList.length=a0.size:=Array.length_toList;have h3:a0.data.toList= []:=List.length_eq_zero_iff.1 (h2.trans h0);rw[Lib.toList_data];exact h3
   ·exact h0
  have c0b:(a0.toList==([]:List UInt8))=false:=beq_eq_false_iff_ne.mpr c0;have c0c:a0.toList.isEmpty=false:=(by simpa using c0);have E0:=zA e0;clear c0 e0;by_cases c1:(a0.size:Int)>4096
  ·have c1b:decide (4096<(a0.size:Int))=true:=decide_eq_true c1;have c1c:decide (4096<a0.size)=true:=decide_eq_true (by omega);(obtain rfl:false=r:=by rw[← hr,decide_eq_false (show ¬ a0.size≤4096 by omega)];simp);clear hr c1;go_enter Tryz.func58,Tryz.ntmps58;go_wp2;go_ret;exact⟨rfl,Below.refl _ _⟩
  ·have c1b:decide (4096<(a0.size:Int))=false:=decide_eq_false c1;have c1c:decide (4096<a0.size)=false:=decide_eq_false (by omega);have hr':a0.data.toList.all iriB=r:=(by rw[← hr,decide_eq_true E0.out,decide_eq_true (show a0.size≤4096 by omega)];simp);have HR:=zA hr';clear hr hr' c1;go_enter Tryz.func58,Tryz.ntmps58;go_wp2;go_loopw [] (fun w'=> ∃ pos:Nat,w'.heap[w.heap.size]? =some (.stringIter a0 pos)∧Aside0 (Below w.heap.size w w')∧Aside0 (pos≤a0.size∧(a0.data.toList.take pos).all iriB=true)) (fun w'=>a0.size - w'.iterPos w.heap.size);(case atStart=>exact⟨0,World.iter_heap w a0 0,⟨(Below.refl _ _).alloc (Nat.le_refl _) _⟩,⟨Nat.zero_le _,rfl⟩⟩);case round=>
    obtain⟨pos,hit,HB,HP⟩:=hrel;have hpos:wr.iterPos w.heap.size=pos:=(by simp[World.iterPos,hit]);by_cases hp:pos<a0.size
    ·(have hnx:=fun ty=>Lib.run_next_any_at (P:=Tryz.prog) wr w.heap.size a0 pos ty hit hp);have hbt:=isIri_bt a0 pos hp;have hio:=iriByte_at (a0.data.toList[pos]'(by rw[Array.length_toList];exact hp));have p5:((0:Int)≤(pos:Int))=True:=eq_true (by omega);have q5:((pos:Int)<(a0.size:Int))=True:=eq_true (by omega);have hx5:=bt_at a0 (pos:Int);rw[hbt]at hx5;have hit2:=Lib.iterAt_heap wr w.heap.size a0 pos (pos+(Utf8.decode a0 pos).2) hit;cases hi:iriB (a0.data.toList[pos]'(by rw[Array.length_toList];exact hp))with
     |false=>
      rw[hi]at hio;go_wp2_with (refine(term_iriByte.calls _ false _ hio).mono ?_;rintro e w3 ⟨rfl,⟨m3,rfl⟩⟩);go_ret;have hf:r=false:=by
       rw[← HR.out,Bool.eq_false_iff];intro hall;have:=List.all_eq_true.1 hall _ (List.getElem_mem (show pos<a0.data.toList.length by rw[Array.length_toList];exact hp));rw[hi]at this;cases this
      refine⟨by rw[hf];rfl,?_⟩;exact Lib.below_iterAt HB.out (Nat.le_refl _) a0 _|>.trans ⟨rfl,rfl,rfl,Nat.le_refl _,fun _ _=>rfl⟩
     |true=>
      rw[hi]at hio;go_wp2_with (refine(term_iriByte.calls _ true _ hio).mono ?_;rintro e w3 ⟨rfl,⟨m3,rfl⟩⟩);have hlow:=iriB_low hi;have hdec:Utf8.decode a0 pos=((a0[pos]'hp).toNat,1):=decode_ascii a0 pos hp hlow;rw[hdec]at hit2 ⊢;go_roundw;case rel=>
       refine⟨pos+1,hit2,⟨Lib.below_iterAt HB.out (Nat.le_refl _) a0 _|>.trans ⟨rfl,rfl,rfl,Nat.le_refl _,fun _ _=>rfl⟩⟩,⟨by omega,?_⟩⟩;rw[List.take_add_one,List.all_append,HP.out.2,List.getElem?_eq_getElem (show pos<a0.data.toList.length by rw[Array.length_toList];exact hp)];simpa using hi
      case measure=>
       have h5:(wr.iterAt w.heap.size a0 (pos+1)).iterPos w.heap.size=pos+1:=(by simp only[World.iterPos,hit2]);(show a0.size - (wr.iterAt w.heap.size a0 (pos+1)).iterPos w.heap.size<a0.size - wr.iterPos w.heap.size);rw[h5,hpos];omega
    ·(have hnx:=fun ty=>Lib.run_next_end_at (P:=Tryz.prog) wr w.heap.size a0 pos ty hit hp);go_wp2;go_ret;have hpe:pos=a0.size:=Nat.le_antisymm HP.out.1 (Nat.not_lt.1 hp);refine⟨?_,HB.out⟩;have h2:=HP.out.2;rw[hpe,List.take_of_length_le (by rw[Array.length_toList];exact Nat.le_refl _),HR.out]at h2;rw[h2];rfl
end Go.Proofs.YtgabadlneeffkaaGreatDoor.G
