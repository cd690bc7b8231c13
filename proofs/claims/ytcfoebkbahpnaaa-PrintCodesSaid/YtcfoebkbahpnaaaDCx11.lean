import Derived.Test.YtcfoebkbahpnaaaDCx0
import Derived.Test.YtcfoebkbahpnaaaDCx4
import Derived.Test.YtcfoebkbahpnaaaDCx7
import Derived.Test.YtcfoebkbahpnaaaDCx2
import Derived.Test.YtcfoebkbahpnaaaDCx10
namespace Go.Proofs.Ytcfoebkbahpnaaa.L
open Go.RowKit Go.Proofs.YtcfoebkbahpnaaaW.PrintWords Go.Proofs.YtcfoebkbahpnaaaW.PrintLast Go.Proofs.YtcfoebkbahpnaaaW.PrintMore
attribute [local go_sem] max2_int min2_int max_two min_two max_three min_three max_four min_four
set_option linter.unusedVariables false
set_option maxHeartbeats 8000000
set_option maxRecDepth 100000
set_option linter.unusedSimpArgs false
mutual
def legationref07_Right.j0 : Nat → Bool → Bool → Int → List (S53) → List ByteArray → List (List (S50)) → List (S112) → ByteArray → Bool → Option (Bool)
  | 0, _, _, _, _, _, _, _, _, _ => none
  | k + 1, x3, x4, x154000, x154001, x154002, x154003, x154004, x154005, x154006 => if (x154002.length : Int) = 0 then (legationref07_Right.j1 k x3 x4 ((x154001.length : Int) == 0) ((x154003.length : Int) == 0) x154000 x154001 x154002 x154003 x154004 x154005 x154006) else (legationref07_Right.j1 k x3 x4 ((x154001.length : Int) == 0) false x154000 x154001 x154002 x154003 x154004 x154005 x154006)
def legationref07_Right.j1 : Nat → Bool → Bool → Bool → Bool → Int → List (S53) → List ByteArray → List (List (S50)) → List (S112) → ByteArray → Bool → Option (Bool)
  | 0, _, _, _, _, _, _, _, _, _, _, _ => none
  | k + 1, x3, x4, x5, x6, x154000, x154001, x154002, x154003, x154004, x154005, x154006 => if x154000 = 1 then ((legationref07_patterns.f k x154001).bind fun t155 => (if t155 = true then (if x6 = true then (if x3 = true then (some false) else (if x154005.toList = ([] : List UInt8) then (some (!x154006)) else (some false))) else (some false)) else (some false))) else (if x154000 = 2 then (if x5 = true then ((legationref07_RightTable.f k x154002 x154003).bind fun t156 => (if t156 = true then (if x3 = true then (some false) else (if x154005.toList = ([] : List UInt8) then (some (!x154006)) else (some false))) else (some false))) else (some false)) else (if x154000 = 3 then (legationref07_Right.j2 k x3 x4 x5 x6 x154000 (x154000 == 3) x154000 x154001 x154002 x154003 x154004 x154005 x154006) else (if x154000 = 4 then (legationref07_Right.j2 k x3 x4 x5 x6 x154000 (x154000 == 4) x154000 x154001 x154002 x154003 x154004 x154005 x154006) else (legationref07_Right.j2 k x3 x4 x5 x6 x154000 (x154000 == 6) x154000 x154001 x154002 x154003 x154004 x154005 x154006))))
def legationref07_Right.j2 : Nat → Bool → Bool → Bool → Bool → Int → Bool → Int → List (S53) → List ByteArray → List (List (S50)) → List (S112) → ByteArray → Bool → Option (Bool)
  | 0, _, _, _, _, _, _, _, _, _, _, _, _, _ => none
  | k + 1, x3, x4, x5, x6, x35, x80, x154000, x154001, x154002, x154003, x154004, x154005, x154006 => if x80 = true then (if x5 = true then (if x6 = true then (if x3 = true then (some false) else (if x154005.toList = ([] : List UInt8) then (some (!x154006)) else (some false))) else (some false)) else (some false)) else (if x35 = 5 then (if x5 = true then (if x6 = true then (if x3 = true then (if x4 = true then (if x154005.toList = ([] : List UInt8) then (some (!x154006)) else (some false)) else (some false)) else (if x154005.toList = ([] : List UInt8) then (some (!x154006)) else (some false))) else (some false)) else (some false)) else (if x35 = 7 then (if x5 = true then (if x6 = true then (if x4 = true then (if x154005.toList = ([] : List UInt8) then (some (!x154006)) else (some false)) else (some false)) else (some false)) else (some false)) else (if x35 = 8 then (if x5 = true then (if x6 = true then (if x4 = true then ((legationref01_IsName.f k x154005).bind fun t157 => (if t157 = true then (some (!x154006)) else (some false))) else (some false)) else (some false)) else (some false)) else (if x35 = 9 then (if x5 = true then (if x6 = true then (if x3 = true then (some false) else ((legationref01_IsIri.f k x154005).bind fun t158 => (some t158))) else (some false)) else (some false)) else (some false)))))
end
def legationref07_Right.f (k : Nat) (a0_0 : Int) (l0_1 : List (S53)) (l0_2 : List ByteArray) (l0_3 : List (List (S50))) (l0_4 : List (S112)) (a0_5 : ByteArray) (a0_6 : Bool) : Option (Bool) := if (l0_4.length : Int) > 0 then ((legationref06_Check.f k l0_4).bind fun t154 => (legationref07_Right.j0 k (decide ((l0_4.length : Int) > 0)) (t154 == 0) a0_0 l0_1 l0_2 l0_3 l0_4 a0_5 a0_6)) else (legationref07_Right.j0 k (decide ((l0_4.length : Int) > 0)) false a0_0 l0_1 l0_2 l0_3 l0_4 a0_5 a0_6)
theorem legationref07_Right.calls (k:Nat) (a0_0:Int) (A0_1:Option Addr) (c0_1:Nat) (l0_1:List (S53)) (A0_2:Option Addr) (c0_2:Nat) (l0_2:List ByteArray) (A0_3:Option Addr) (c0_3:Nat) (l0_3:List (List (S50))) (A0_4:Option Addr) (c0_4:Nat) (l0_4:List (S112)) (a0_5:ByteArray) (a0_6:Bool) (r:Bool) (w:World) (hr0_1:Kd.C k53 w A0_1 l0_1.length l0_1) (hc0_1:l0_1.length≤c0_1) (hr0_2:Kd.C Kd.string w A0_2 l0_2.length l0_2) (hc0_2:l0_2.length≤c0_2) (hr0_3:Kd.C (Kd.slice 50 k50) w A0_3 l0_3.length l0_3) (hc0_3:l0_3.length≤c0_3) (hr0_4:Kd.C k112 w A0_4 l0_4.length l0_4) (hc0_4:l0_4.length≤c0_4) (h:legationref07_Right.f k a0_0 l0_1 l0_2 l0_3 l0_4 a0_5 a0_6=some r):
 Calls Try.prog 47 #[.agg #[.int .i64 a0_0,.slice A0_1 l0_1.length c0_1,.slice A0_2 l0_2.length c0_2,.slice A0_3 l0_3.length c0_3,.slice A0_4 l0_4.length c0_4,.string a0_5,.bool a0_6]] w fun e w'=>e= .returned (.bool r)∧Below w.heap.size w w':=by
 have HR0_1:=zA hr0_1;have HC0_1:=zA hc0_1;clear hr0_1 hc0_1;have HR0_2:=zA hr0_2;have HC0_2:=zA hc0_2;clear hr0_2 hc0_2;have HR0_3:=zA hr0_3;have HC0_3:=zA hc0_3;clear hr0_3 hc0_3;have HR0_4:=zA hr0_4;have HC0_4:=zA hc0_4;clear hr0_4 hc0_4;have HB:=zA (Below.refl w.heap.size w);have H:(if(l0_4.length:Int)>0 then((legationref06_Check.f k l0_4).bind fun t154=>(legationref07_Right.j0 k (decide ((l0_4.length:Int)>0)) (t154==0) a0_0 l0_1 l0_2 l0_3 l0_4 a0_5 a0_6))else(legationref07_Right.j0 k (decide ((l0_4.length:Int)>0)) false a0_0 l0_1 l0_2 l0_3 l0_4 a0_5 a0_6))=some r:=h;clear h;have HC2:=zA H;clear H;go_enter Try.func47,Try.ntmps47;go_upto_region 2 with (((with_reducible refine gate_dst (N:=1) rfl ?_);(try(refine gate_guard (by rfl) ?_;dsimp only));refine zE #[.int .i64 a0_0,.slice A0_1 l0_1.length c0_1,.slice A0_2 l0_2.length c0_2,.slice A0_3 l0_3.length c0_3,.slice A0_4 l0_4.length c0_4,.string a0_5,.bool a0_6] 45 ?_;intro gb153 hg w3 hbox hb;have BK153:=zA hbox;have GW153:=zZ HB.out hg;replace HB:=zS HB.out hb;clear hb hbox hg;have hcz4_4:=zc7_4 BK153.out))
 go_cut [3,4] (fun v3 v4 wc=> ∃ (kq:Nat) (x3_1:Bool) (x4_1:Bool),v3= .bool x3_1∧v4= .bool x4_1∧Aside0 (legationref07_Right.j0 kq x3_1 x4_1 a0_0 l0_1 l0_2 l0_3 l0_4 a0_5 a0_6=some r)∧Aside0 (kq≤k)∧Aside0 (wc.heap[gb153]? =some (.cells #[.int .i64 a0_0,(.slice A0_1 l0_1.length c0_1),(.slice A0_2 l0_2.length c0_2),(.slice A0_3 l0_3.length c0_3),(.slice A0_4 l0_4.length c0_4),.string a0_5,.bool a0_6] 45 (0,0)))∧Aside0 (Below w.heap.size w wc));case first=>
  have H:=HC2.out;clear HC2;by_cases c5:(l0_4.length:Int)>0
  ·rw[if_pos c5]at H;have c5b1:decide (0<l0_4.length)=true:=decide_eq_true (by omega);clear c5;obtain⟨t154,A6,H⟩:=zk H;have H':=zA H;clear H;go_wp2_with ((go_at_call 69;(with_reducible refine(legationref06_Check.calls k _ _ l0_4 t154 _ ?side1 ?side2 A6.out).mono ?_);(case side1=>exact Kd.C_below HR0_4.out HB.out);(case side2=>exact HC0_4.out);rintro e w8 ⟨rfl,hb⟩;replace BK153:=zB BK153.out hb;replace HB:=zS HB.out hb;(try clear hb)));go_meet;case rel=>exact⟨_,(decide ((l0_4.length:Int)>0)),((t154==0)),(by(simp[*];done)),(by rfl),H',⟨by omega⟩,⟨by exact BK153.out⟩,⟨HB.out⟩⟩
  ·rw[if_neg c5]at H;have c5b1:decide (0<l0_4.length)=false:=decide_eq_false (by omega);clear c5;have H':=zA H;clear H;go_wp2;go_meet;case rel=>exact⟨_,(decide ((l0_4.length:Int)>0)),(false),(by(simp[*];done)),(by rfl),H',⟨by omega⟩,⟨by exact BK153.out⟩,⟨HB.out⟩⟩
 case rest=>
  clear HC2;(try clear hcz4_4);obtain⟨kq,x3_1,x4_1,rfl,rfl,HA,HJ1,BK153,HB⟩:=hcut;cases kq with
  |zero=>exact absurd HA.out (by simp[legationref07_Right.j0])
  |succ kj1=>
   have H:=HA.out;clear HA;simp only[legationref07_Right.j0]at H;have HC9:=zA H;clear H;have hcz10_1:=zc7_1 BK153.out;have hcz10_2:=zc7_2 BK153.out;have hcz10_3:=zc7_3 BK153.out;go_upto_region 4 with (fail)
   go_cut [3,6] (fun v3 v6 wc=> ∃ (kq:Nat) (x3_8:Bool) (x6_8:Bool),v3= .bool x3_8∧v6= .bool x6_8∧Aside0 (legationref07_Right.j1 kq x3_8 x4_1 ((l0_1.length:Int)==0) x6_8 a0_0 l0_1 l0_2 l0_3 l0_4 a0_5 a0_6=some r)∧Aside0 (kq≤kj1)∧Aside0 (wc.heap[gb153]? =some (.cells #[.int .i64 a0_0,(.slice A0_1 l0_1.length c0_1),(.slice A0_2 l0_2.length c0_2),(.slice A0_3 l0_3.length c0_3),(.slice A0_4 l0_4.length c0_4),.string a0_5,.bool a0_6] 45 (0,0)))∧Aside0 (Below w.heap.size w wc));case first=>
    have H:=HC9.out;clear HC9;obtain⟨c11b0,H⟩|⟨c11b0,H⟩:=zb H
    ·have H':=zA H;clear H;go_wp2;go_meet;case rel=>exact⟨_,(x3_1),(((l0_3.length:Int)==0)),(by rfl),(by rfl),H',⟨by have:=HJ1.out;omega⟩,⟨by exact BK153.out⟩,⟨HB.out⟩⟩
    ·have H':=zA H;clear H;go_wp2;go_meet;case rel=>exact⟨_,(x3_1),(false),(by rfl),(by rfl),H',⟨by have:=HJ1.out;omega⟩,⟨by exact BK153.out⟩,⟨HB.out⟩⟩
   case rest=>
    clear HC9;(try clear hcz10_1);(try clear hcz10_2);(try clear hcz10_3);obtain⟨kq,x3_8,x6_8,rfl,rfl,HA,HJ8,BK153,HB⟩:=hcut;cases kq with
    |zero=>exact absurd HA.out (by simp[legationref07_Right.j1])
    |succ kj8=>
     have H:=HA.out;clear HA;simp only[legationref07_Right.j1]at H;by_cases c14:a0_0=1
     ·rw[if_pos c14]at H;have c14b0:(a0_0==1)=true:=beq_iff_eq.mpr c14;clear c14;obtain⟨t155,A15,H⟩:=zk H;by_cases c16:t155=true
      ·subst c16;rw[if_pos rfl]at H;by_cases c17:x6_8=true
       ·subst c17;rw[if_pos rfl]at H;by_cases c18:x3_8=true
        ·subst c18;rw[if_pos rfl]at H;obtain rfl:=Option.some.inj H;have hcz19_0:=zc7_0 BK153.out;have hcz19_1:=zc7_1 BK153.out;go_wp2_with (((with_reducible refine gate_callee (f:=70) rfl ?_);refine zX (some 40) Try.func70 #[.slice A0_1 l0_1.length c0_1] ?_;(with_reducible refine(legationref07_patterns.calls kj8 _ _ l0_1 true _ ?side1 ?side2 A15.out).mono ?_);(case side1=>exact Kd.C_below HR0_1.out HB.out);(case side2=>exact HC0_1.out);rintro e w20 ⟨rfl,hb⟩;refine⟨_,rfl,?_⟩;replace BK153:=zB BK153.out hb;replace HB:=zS HB.out hb;(try clear hb)));go_ret;exact⟨by rfl,HB.out⟩
        ·replace c18:=Bool.eq_false_iff.mpr c18;subst c18;rw[if_neg (show ¬(false=true)by decide)]at H;obtain⟨c21b0,H⟩|⟨c21b0,H⟩:=zb H
         ·obtain rfl:=Option.some.inj H;have hcz22_0:=zc7_0 BK153.out;have hcz22_1:=zc7_1 BK153.out;go_wp2_with (((with_reducible refine gate_callee (f:=70) rfl ?_);refine zX (some 40) Try.func70 #[.slice A0_1 l0_1.length c0_1] ?_;(with_reducible refine(legationref07_patterns.calls kj8 _ _ l0_1 true _ ?side1 ?side2 A15.out).mono ?_);(case side1=>exact Kd.C_below HR0_1.out HB.out);(case side2=>exact HC0_1.out);rintro e w23 ⟨rfl,hb⟩;refine⟨_,rfl,?_⟩;replace BK153:=zB BK153.out hb;replace HB:=zS HB.out hb;(try clear hb);have hcz24_5:=zc7_5 BK153.out;have hcz24_6:=zc7_6 BK153.out));go_ret;exact⟨by rfl,HB.out⟩
         ·obtain rfl:=Option.some.inj H;have hcz25_0:=zc7_0 BK153.out;have hcz25_1:=zc7_1 BK153.out;go_wp2_with (((with_reducible refine gate_callee (f:=70) rfl ?_);refine zX (some 40) Try.func70 #[.slice A0_1 l0_1.length c0_1] ?_;(with_reducible refine(legationref07_patterns.calls kj8 _ _ l0_1 true _ ?side1 ?side2 A15.out).mono ?_);(case side1=>exact Kd.C_below HR0_1.out HB.out);(case side2=>exact HC0_1.out);rintro e w26 ⟨rfl,hb⟩;refine⟨_,rfl,?_⟩;replace BK153:=zB BK153.out hb;replace HB:=zS HB.out hb;(try clear hb);have hcz27_5:=zc7_5 BK153.out));go_ret;exact⟨by rfl,HB.out⟩
       ·replace c17:=Bool.eq_false_iff.mpr c17;subst c17;rw[if_neg (show ¬(false=true)by decide)]at H;obtain rfl:=Option.some.inj H;have hcz28_0:=zc7_0 BK153.out;have hcz28_1:=zc7_1 BK153.out;go_wp2_with (((with_reducible refine gate_callee (f:=70) rfl ?_);refine zX (some 40) Try.func70 #[.slice A0_1 l0_1.length c0_1] ?_;(with_reducible refine(legationref07_patterns.calls kj8 _ _ l0_1 true _ ?side1 ?side2 A15.out).mono ?_);(case side1=>exact Kd.C_below HR0_1.out HB.out);(case side2=>exact HC0_1.out);rintro e w29 ⟨rfl,hb⟩;refine⟨_,rfl,?_⟩;replace BK153:=zB BK153.out hb;replace HB:=zS HB.out hb;(try clear hb)));go_ret;exact⟨by rfl,HB.out⟩
      ·replace c16:=Bool.eq_false_iff.mpr c16;subst c16;rw[if_neg (show ¬(false=true)by decide)]at H;obtain rfl:=Option.some.inj H;have hcz30_0:=zc7_0 BK153.out;have hcz30_1:=zc7_1 BK153.out;go_wp2_with (((with_reducible refine gate_callee (f:=70) rfl ?_);refine zX (some 40) Try.func70 #[.slice A0_1 l0_1.length c0_1] ?_;(with_reducible refine(legationref07_patterns.calls kj8 _ _ l0_1 false _ ?side1 ?side2 A15.out).mono ?_);(case side1=>exact Kd.C_below HR0_1.out HB.out);(case side2=>exact HC0_1.out);rintro e w31 ⟨rfl,hb⟩;refine⟨_,rfl,?_⟩;replace BK153:=zB BK153.out hb;replace HB:=zS HB.out hb;(try clear hb)));go_ret;exact⟨by rfl,HB.out⟩
     ·rw[if_neg c14]at H;have c14b0:(a0_0==1)=false:=beq_eq_false_iff_ne.mpr c14;by_cases c32:a0_0=2
      ·rw[if_pos c32]at H;have c32b0:(a0_0==2)=true:=beq_iff_eq.mpr c32;clear c32;by_cases c33:((l0_1.length:Int)==0)=true
       ·rw[if_pos c33]at H;have c33b0:((l0_1.length:Int)==0)=true:=c33;clear c33;obtain⟨t156,A34,H⟩:=zk H;by_cases c35:t156=true
        ·subst c35;rw[if_pos rfl]at H;by_cases c36:x3_8=true
         ·subst c36;rw[if_pos rfl]at H;obtain rfl:=Option.some.inj H;have hcz37_0:=zc7_0 BK153.out;have hcz37_2:=zc7_2 BK153.out;have hcz37_3:=zc7_3 BK153.out;go_wp2_with ((go_at_call 71;(with_reducible refine(legationref07_RightTable.calls kj8 _ _ l0_2 _ _ l0_3 true _ ?side1 ?side2 ?side3 ?side4 A34.out).mono ?_);(case side1=>exact Kd.C_below HR0_2.out HB.out);(case side2=>exact HC0_2.out);(case side3=>exact Kd.C_below HR0_3.out HB.out);(case side4=>exact HC0_3.out);rintro e w38 ⟨rfl,hb⟩;replace BK153:=zB BK153.out hb;replace HB:=zS HB.out hb;(try clear hb)));go_ret;exact⟨by rfl,HB.out⟩
         ·replace c36:=Bool.eq_false_iff.mpr c36;subst c36;rw[if_neg (show ¬(false=true)by decide)]at H;obtain⟨c39b0,H⟩|⟨c39b0,H⟩:=zb H
          ·obtain rfl:=Option.some.inj H;have hcz40_0:=zc7_0 BK153.out;have hcz40_2:=zc7_2 BK153.out;have hcz40_3:=zc7_3 BK153.out;go_wp2_with ((go_at_call 71;(with_reducible refine(legationref07_RightTable.calls kj8 _ _ l0_2 _ _ l0_3 true _ ?side1 ?side2 ?side3 ?side4 A34.out).mono ?_);(case side1=>exact Kd.C_below HR0_2.out HB.out);(case side2=>exact HC0_2.out);(case side3=>exact Kd.C_below HR0_3.out HB.out);(case side4=>exact HC0_3.out);rintro e w41 ⟨rfl,hb⟩;replace BK153:=zB BK153.out hb;replace HB:=zS HB.out hb;(try clear hb);have hcz42_5:=zc7_5 BK153.out;have hcz42_6:=zc7_6 BK153.out));go_ret;exact⟨by rfl,HB.out⟩
          ·obtain rfl:=Option.some.inj H;have hcz43_0:=zc7_0 BK153.out;have hcz43_2:=zc7_2 BK153.out;have hcz43_3:=zc7_3 BK153.out;go_wp2_with ((go_at_call 71;(with_reducible refine(legationref07_RightTable.calls kj8 _ _ l0_2 _ _ l0_3 true _ ?side1 ?side2 ?side3 ?side4 A34.out).mono ?_);(case side1=>exact Kd.C_below HR0_2.out HB.out);(case side2=>exact HC0_2.out);(case side3=>exact Kd.C_below HR0_3.out HB.out);(case side4=>exact HC0_3.out);rintro e w44 ⟨rfl,hb⟩;replace BK153:=zB BK153.out hb;replace HB:=zS HB.out hb;(try clear hb);have hcz45_5:=zc7_5 BK153.out));go_ret;exact⟨by rfl,HB.out⟩
        ·replace c35:=Bool.eq_false_iff.mpr c35;subst c35;rw[if_neg (show ¬(false=true)by decide)]at H;obtain rfl:=Option.some.inj H;have hcz46_0:=zc7_0 BK153.out;have hcz46_2:=zc7_2 BK153.out;have hcz46_3:=zc7_3 BK153.out;go_wp2_with ((go_at_call 71;(with_reducible refine(legationref07_RightTable.calls kj8 _ _ l0_2 _ _ l0_3 false _ ?side1 ?side2 ?side3 ?side4 A34.out).mono ?_);(case side1=>exact Kd.C_below HR0_2.out HB.out);(case side2=>exact HC0_2.out);(case side3=>exact Kd.C_below HR0_3.out HB.out);(case side4=>exact HC0_3.out);rintro e w47 ⟨rfl,hb⟩;replace BK153:=zB BK153.out hb;replace HB:=zS HB.out hb;(try clear hb)));go_ret;exact⟨by rfl,HB.out⟩
       ·rw[if_neg c33]at H;have c33b0:((l0_1.length:Int)==0)=false:=(by simpa using c33);clear c33;obtain rfl:=Option.some.inj H;have hcz48_0:=zc7_0 BK153.out;go_wp2;go_ret;exact⟨by rfl,HB.out⟩
      ·rw[if_neg c32]at H;have c32b0:(a0_0==2)=false:=beq_eq_false_iff_ne.mpr c32;have HC49:=zA H;clear H;have hcz50_0:=zc7_0 BK153.out;go_upto_if 80 with (fail)
       go_cut [3,80] (fun v3 v80 wc=> ∃ (kq:Nat) (x3_48:Bool) (x80_48:Bool),v3= .bool x3_48∧v80= .bool x80_48∧Aside0 (legationref07_Right.j2 kq x3_48 x4_1 ((l0_1.length:Int)==0) x6_8 a0_0 x80_48 a0_0 l0_1 l0_2 l0_3 l0_4 a0_5 a0_6=some r)∧Aside0 (kq≤kj8)∧Aside0 (wc.heap[gb153]? =some (.cells #[.int .i64 a0_0,(.slice A0_1 l0_1.length c0_1),(.slice A0_2 l0_2.length c0_2),(.slice A0_3 l0_3.length c0_3),(.slice A0_4 l0_4.length c0_4),.string a0_5,.bool a0_6] 45 (0,0)))∧Aside0 (Below w.heap.size w wc));case first=>
        have H:=HC49.out;clear HC49;obtain⟨c51b0,H⟩|⟨c51b0,H⟩:=zb H
        ·(rw[c51b0]);have H':=zA H;clear H;go_wp2;go_meet;case rel=>exact⟨_,(x3_8),((a0_0==3)),(by rfl),(by(simp[*];done)),H',⟨by have:=HJ1.out;have:=HJ8.out;omega⟩,⟨by exact BK153.out⟩,⟨HB.out⟩⟩
        ·(rw[c51b0]);obtain⟨c52b0,H⟩|⟨c52b0,H⟩:=zb H
         ·have H':=zA H;clear H;go_wp2;go_meet;case rel=>exact⟨_,(x3_8),((a0_0==4)),(by rfl),(by(simp[*];done)),H',⟨by have:=HJ1.out;have:=HJ8.out;omega⟩,⟨by exact BK153.out⟩,⟨HB.out⟩⟩
         ·have H':=zA H;clear H;go_wp2;go_meet;case rel=>exact⟨_,(x3_8),((a0_0==6)),(by rfl),(by rfl),H',⟨by have:=HJ1.out;have:=HJ8.out;omega⟩,⟨by exact BK153.out⟩,⟨HB.out⟩⟩
       case rest=>
        clear HC49;(try clear c14);(try clear c14b0);(try clear c32);(try clear c32b0);(try clear hcz50_0);obtain⟨kq,x3_48,x80_48,rfl,rfl,HA,HJ48,BK153,HB⟩:=hcut;cases kq with
        |zero=>exact absurd HA.out (by simp[legationref07_Right.j2])
        |succ kj48=>
         have H:=HA.out;clear HA;simp only[legationref07_Right.j2]at H;by_cases c53:x80_48=true
         ·subst c53;rw[if_pos rfl]at H;by_cases c54:((l0_1.length:Int)==0)=true
          ·rw[if_pos c54]at H;have c54b0:((l0_1.length:Int)==0)=true:=c54;clear c54;by_cases c55:x6_8=true
           ·subst c55;rw[if_pos rfl]at H;by_cases c56:x3_48=true
            ·subst c56;rw[if_pos rfl]at H;obtain rfl:=Option.some.inj H;go_wp2;go_ret;exact⟨by rfl,HB.out⟩
            ·replace c56:=Bool.eq_false_iff.mpr c56;subst c56;rw[if_neg (show ¬(false=true)by decide)]at H;obtain⟨c57b0,H⟩|⟨c57b0,H⟩:=zb H
             ·obtain rfl:=Option.some.inj H;have hcz58_5:=zc7_5 BK153.out;have hcz58_6:=zc7_6 BK153.out;go_wp2;go_ret;exact⟨by rfl,HB.out⟩
             ·obtain rfl:=Option.some.inj H;have hcz59_5:=zc7_5 BK153.out;go_wp2;go_ret;exact⟨by rfl,HB.out⟩
           ·replace c55:=Bool.eq_false_iff.mpr c55;subst c55;rw[if_neg (show ¬(false=true)by decide)]at H;obtain rfl:=Option.some.inj H;go_wp2;go_ret;exact⟨by rfl,HB.out⟩
          ·rw[if_neg c54]at H;have c54b0:((l0_1.length:Int)==0)=false:=(by simpa using c54);clear c54;obtain rfl:=Option.some.inj H;go_wp2;go_ret;exact⟨by rfl,HB.out⟩
         ·replace c53:=Bool.eq_false_iff.mpr c53;subst c53;rw[if_neg (show ¬(false=true)by decide)]at H;obtain⟨c60b0,H⟩|⟨c60b0,H⟩:=zb H
          ·by_cases c61:((l0_1.length:Int)==0)=true
           ·rw[if_pos c61]at H;have c61b0:((l0_1.length:Int)==0)=true:=c61;clear c61;by_cases c62:x6_8=true
            ·subst c62;rw[if_pos rfl]at H;by_cases c63:x3_48=true
             ·subst c63;rw[if_pos rfl]at H;by_cases c64:x4_1=true
              ·subst c64;rw[if_pos rfl]at H;obtain⟨c65b0,H⟩|⟨c65b0,H⟩:=zb H
               ·obtain rfl:=Option.some.inj H;have hcz66_5:=zc7_5 BK153.out;have hcz66_6:=zc7_6 BK153.out;go_wp2;go_ret;exact⟨by rfl,HB.out⟩
               ·obtain rfl:=Option.some.inj H;have hcz67_5:=zc7_5 BK153.out;go_wp2;go_ret;exact⟨by rfl,HB.out⟩
              ·replace c64:=Bool.eq_false_iff.mpr c64;subst c64;rw[if_neg (show ¬(false=true)by decide)]at H;obtain rfl:=Option.some.inj H;go_wp2;go_ret;exact⟨by rfl,HB.out⟩
             ·replace c63:=Bool.eq_false_iff.mpr c63;subst c63;rw[if_neg (show ¬(false=true)by decide)]at H;obtain⟨c68b0,H⟩|⟨c68b0,H⟩:=zb H
              ·obtain rfl:=Option.some.inj H;have hcz69_5:=zc7_5 BK153.out;have hcz69_6:=zc7_6 BK153.out;go_wp2;go_ret;exact⟨by rfl,HB.out⟩
              ·obtain rfl:=Option.some.inj H;have hcz70_5:=zc7_5 BK153.out;go_wp2;go_ret;exact⟨by rfl,HB.out⟩
            ·replace c62:=Bool.eq_false_iff.mpr c62;subst c62;rw[if_neg (show ¬(false=true)by decide)]at H;obtain rfl:=Option.some.inj H;go_wp2;go_ret;exact⟨by rfl,HB.out⟩
           ·rw[if_neg c61]at H;have c61b0:((l0_1.length:Int)==0)=false:=(by simpa using c61);clear c61;obtain rfl:=Option.some.inj H;go_wp2;go_ret;exact⟨by rfl,HB.out⟩
          ·obtain⟨c71b0,H⟩|⟨c71b0,H⟩:=zb H
           ·by_cases c72:((l0_1.length:Int)==0)=true
            ·rw[if_pos c72]at H;have c72b0:((l0_1.length:Int)==0)=true:=c72;clear c72;by_cases c73:x6_8=true
             ·subst c73;rw[if_pos rfl]at H;by_cases c74:x4_1=true
              ·subst c74;rw[if_pos rfl]at H;obtain⟨c75b0,H⟩|⟨c75b0,H⟩:=zb H
               ·obtain rfl:=Option.some.inj H;have hcz76_5:=zc7_5 BK153.out;have hcz76_6:=zc7_6 BK153.out;go_wp2;go_ret;exact⟨by rfl,HB.out⟩
               ·obtain rfl:=Option.some.inj H;have hcz77_5:=zc7_5 BK153.out;go_wp2;go_ret;exact⟨by rfl,HB.out⟩
              ·replace c74:=Bool.eq_false_iff.mpr c74;subst c74;rw[if_neg (show ¬(false=true)by decide)]at H;obtain rfl:=Option.some.inj H;go_wp2;go_ret;exact⟨by rfl,HB.out⟩
             ·replace c73:=Bool.eq_false_iff.mpr c73;subst c73;rw[if_neg (show ¬(false=true)by decide)]at H;obtain rfl:=Option.some.inj H;go_wp2;go_ret;exact⟨by rfl,HB.out⟩
            ·rw[if_neg c72]at H;have c72b0:((l0_1.length:Int)==0)=false:=(by simpa using c72);clear c72;obtain rfl:=Option.some.inj H;go_wp2;go_ret;exact⟨by rfl,HB.out⟩
           ·obtain⟨c78b0,H⟩|⟨c78b0,H⟩:=zb H
            ·by_cases c79:((l0_1.length:Int)==0)=true
             ·rw[if_pos c79]at H;have c79b0:((l0_1.length:Int)==0)=true:=c79;clear c79;by_cases c80:x6_8=true
              ·subst c80;rw[if_pos rfl]at H;by_cases c81:x4_1=true
               ·subst c81;rw[if_pos rfl]at H;obtain⟨t157,A82,H⟩:=zk H;by_cases c83:t157=true
                ·subst c83;rw[if_pos rfl]at H;obtain rfl:=Option.some.inj H;have hcz84_5:=zc7_5 BK153.out;have hcz84_6:=zc7_6 BK153.out;go_wp2_with ((go_at_call 72;(with_reducible refine(legationref01_IsName.calls kj48 a0_5 true _ A82.out).mono ?_);rintro e w' ⟨rfl,⟨nd,rfl⟩⟩));go_ret;exact⟨by rfl,by repeat((with_reducible first|exact HB.out|apply pw_below_drewN))⟩
                ·replace c83:=Bool.eq_false_iff.mpr c83;subst c83;rw[if_neg (show ¬(false=true)by decide)]at H;obtain rfl:=Option.some.inj H;have hcz85_5:=zc7_5 BK153.out;go_wp2_with ((go_at_call 72;(with_reducible refine(legationref01_IsName.calls kj48 a0_5 false _ A82.out).mono ?_);rintro e w' ⟨rfl,⟨nd,rfl⟩⟩));go_ret;exact⟨by rfl,by repeat((with_reducible first|exact HB.out|apply pw_below_drewN))⟩
               ·replace c81:=Bool.eq_false_iff.mpr c81;subst c81;rw[if_neg (show ¬(false=true)by decide)]at H;obtain rfl:=Option.some.inj H;go_wp2;go_ret;exact⟨by rfl,HB.out⟩
              ·replace c80:=Bool.eq_false_iff.mpr c80;subst c80;rw[if_neg (show ¬(false=true)by decide)]at H;obtain rfl:=Option.some.inj H;go_wp2;go_ret;exact⟨by rfl,HB.out⟩
             ·rw[if_neg c79]at H;have c79b0:((l0_1.length:Int)==0)=false:=(by simpa using c79);clear c79;obtain rfl:=Option.some.inj H;go_wp2;go_ret;exact⟨by rfl,HB.out⟩
            ·obtain⟨c86b0,H⟩|⟨c86b0,H⟩:=zb H
             ·by_cases c87:((l0_1.length:Int)==0)=true
              ·rw[if_pos c87]at H;have c87b0:((l0_1.length:Int)==0)=true:=c87;clear c87;by_cases c88:x6_8=true
               ·subst c88;rw[if_pos rfl]at H;by_cases c89:x3_48=true
                ·subst c89;rw[if_pos rfl]at H;obtain rfl:=Option.some.inj H;go_wp2;go_ret;exact⟨by rfl,HB.out⟩
                ·replace c89:=Bool.eq_false_iff.mpr c89;subst c89;rw[if_neg (show ¬(false=true)by decide)]at H;obtain⟨t158,A90,H⟩:=zk H;obtain rfl:=Option.some.inj H;have hcz91_5:=zc7_5 BK153.out;go_wp2_with ((go_at_call 23;(with_reducible refine(legationref01_IsIri.calls kj48 a0_5 t158 _ A90.out).mono ?_);rintro e w' ⟨rfl,⟨nd,rfl⟩⟩));go_ret;exact⟨by rfl,by repeat((with_reducible first|exact HB.out|apply pw_below_drewN))⟩
               ·replace c88:=Bool.eq_false_iff.mpr c88;subst c88;rw[if_neg (show ¬(false=true)by decide)]at H;obtain rfl:=Option.some.inj H;go_wp2;go_ret;exact⟨by rfl,HB.out⟩
              ·rw[if_neg c87]at H;have c87b0:((l0_1.length:Int)==0)=false:=(by simpa using c87);clear c87;obtain rfl:=Option.some.inj H;go_wp2;go_ret;exact⟨by rfl,HB.out⟩
             ·obtain rfl:=Option.some.inj H;go_wp2;go_ret;exact⟨by rfl,HB.out⟩
end Go.Proofs.Ytcfoebkbahpnaaa.L
