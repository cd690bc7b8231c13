import Derived.Test.YtcfoebkbahpnaaaDCx0
import Derived.Test.YtcfoebkbahpnaaaDCx17
import Derived.Test.YtcfoebkbahpnaaaDCx18
import Derived.Test.YtcfoebkbahpnaaaDCx3
import Derived.Test.YtcfoebkbahpnaaaDCx22
import Derived.Test.YtcfoebkbahpnaaaDCx24
import Derived.Test.YtcfoebkbahpnaaaDCx25
namespace Go.Proofs.Ytcfoebkbahpnaaa.L
open Go.RowKit Go.Proofs.YtcfoebkbahpnaaaW.PrintWords Go.Proofs.YtcfoebkbahpnaaaW.PrintLast Go.Proofs.YtcfoebkbahpnaaaW.PrintMore
attribute [local go_sem] max2_int min2_int max_two min_two max_three min_three max_four min_four
set_option linter.unusedVariables false
set_option maxHeartbeats 8000000
set_option maxRecDepth 100000
set_option linter.unusedSimpArgs false
mutual
def scope_Right.j0 : Nat → Bool → Int → List (S53) → List ByteArray → List (List (S50)) → List (S112) → ByteArray → Bool → Option (Bool)
  | 0, _, _, _, _, _, _, _, _ => none
  | k + 1, x29, x321000, x321001, x321002, x321003, x321004, x321005, x321006 => if x29 = true then (some false) else (if x321000 = 9 then (if x321000 = 8 then (scope_Right.j1 k false x321000 x321001 x321002 x321003 x321004 x321005 x321006) else (scope_Right.j1 k false x321000 x321001 x321002 x321003 x321004 x321005 x321006)) else (if x321006 = true then (scope_Right.j1 k true x321000 x321001 x321002 x321003 x321004 x321005 x321006) else (if x321000 = 8 then (scope_Right.j1 k false x321000 x321001 x321002 x321003 x321004 x321005 x321006) else (scope_Right.j1 k (x321005.toList != ([] : List UInt8)) x321000 x321001 x321002 x321003 x321004 x321005 x321006))))
def scope_Right.j1 : Nat → Bool → Int → List (S53) → List ByteArray → List (List (S50)) → List (S112) → ByteArray → Bool → Option (Bool)
  | 0, _, _, _, _, _, _, _, _ => none
  | k + 1, x51, x321000, x321001, x321002, x321003, x321004, x321005, x321006 => if x51 = true then (some false) else (if x321000 = 7 then (scope_Right.j2 k true x321000 x321001 x321002 x321003 x321004 x321005 x321006) else (if x321000 = 8 then (scope_Right.j2 k true x321000 x321001 x321002 x321003 x321004 x321005 x321006) else (if x321000 = 5 then (scope_Right.j2 k (decide ((x321004.length : Int) > 0)) x321000 x321001 x321002 x321003 x321004 x321005 x321006) else (scope_Right.j2 k false x321000 x321001 x321002 x321003 x321004 x321005 x321006))))
def scope_Right.j2 : Nat → Bool → Int → List (S53) → List ByteArray → List (List (S50)) → List (S112) → ByteArray → Bool → Option (Bool)
  | 0, _, _, _, _, _, _, _, _ => none
  | k + 1, x3, x321000, x321001, x321002, x321003, x321004, x321005, x321006 => if x3 = true then ((formula_Check.f k x321004).bind fun t321 => (scope_Right.j3 k (t321 != 0) x321000 x321001 x321002 x321003 x321004 x321005 x321006)) else (if (x321004.length : Int) > 0 then (scope_Right.j3 k true x321000 x321001 x321002 x321003 x321004 x321005 x321006) else (scope_Right.j3 k false x321000 x321001 x321002 x321003 x321004 x321005 x321006))
def scope_Right.j3 : Nat → Bool → Int → List (S53) → List ByteArray → List (List (S50)) → List (S112) → ByteArray → Bool → Option (Bool)
  | 0, _, _, _, _, _, _, _, _ => none
  | k + 1, x87, x321000, x321001, x321002, x321003, x321004, x321005, x321006 => if x87 = true then (some false) else (if x321000 = 1 then ((scope_basic.f k x321001).bind fun t322 => (some t322)) else (if x321000 = 2 then ((scope_table.f k x321002 x321003).bind fun t323 => (some t323)) else (if x321000 = 8 then ((term_IsName.f k x321005).bind fun t324 => (some t324)) else (if x321000 = 9 then ((term_Check.f k 1 x321005 (⟨#[]⟩ : ByteArray) (⟨#[]⟩ : ByteArray)).bind fun t325 => (some (t325 == 0))) else ((scope_Needs.f k x321000 x321001 x321002 x321003 x321004 x321005 x321006).bind fun t326 => (some (decide (t326 ≥ 0))))))))
end
def scope_Right.f (k : Nat) (a0_0 : Int) (l0_1 : List (S53)) (l0_2 : List ByteArray) (l0_3 : List (List (S50))) (l0_4 : List (S112)) (a0_5 : ByteArray) (a0_6 : Bool) : Option (Bool) := if a0_0 = 1 then (if a0_0 = 2 then (scope_Right.j0 k false a0_0 l0_1 l0_2 l0_3 l0_4 a0_5 a0_6) else (scope_Right.j0 k (decide ((wrap64 ((l0_2.length : Int) + (l0_3.length : Int))) > 0)) a0_0 l0_1 l0_2 l0_3 l0_4 a0_5 a0_6)) else (if (l0_1.length : Int) > 0 then (scope_Right.j0 k true a0_0 l0_1 l0_2 l0_3 l0_4 a0_5 a0_6) else (if a0_0 = 2 then (scope_Right.j0 k false a0_0 l0_1 l0_2 l0_3 l0_4 a0_5 a0_6) else (scope_Right.j0 k (decide ((wrap64 ((l0_2.length : Int) + (l0_3.length : Int))) > 0)) a0_0 l0_1 l0_2 l0_3 l0_4 a0_5 a0_6)))
theorem scope_Right.calls (k:Nat) (a0_0:Int) (A0_1:Option Addr) (c0_1:Nat) (l0_1:List (S53)) (A0_2:Option Addr) (c0_2:Nat) (l0_2:List ByteArray) (A0_3:Option Addr) (c0_3:Nat) (l0_3:List (List (S50))) (A0_4:Option Addr) (c0_4:Nat) (l0_4:List (S112)) (a0_5:ByteArray) (a0_6:Bool) (r:Bool) (w:World) (hr0_1:Kd.C k53 w A0_1 l0_1.length l0_1) (hc0_1:l0_1.length≤c0_1) (hr0_2:Kd.C Kd.string w A0_2 l0_2.length l0_2) (hc0_2:l0_2.length≤c0_2) (hr0_3:Kd.C (Kd.slice 50 k50) w A0_3 l0_3.length l0_3) (hc0_3:l0_3.length≤c0_3) (hr0_4:Kd.C k112 w A0_4 l0_4.length l0_4) (hc0_4:l0_4.length≤c0_4) (h:scope_Right.f k a0_0 l0_1 l0_2 l0_3 l0_4 a0_5 a0_6=some r):
 Calls Try.prog 60 #[.agg #[.int .i64 a0_0,.slice A0_1 l0_1.length c0_1,.slice A0_2 l0_2.length c0_2,.slice A0_3 l0_3.length c0_3,.slice A0_4 l0_4.length c0_4,.string a0_5,.bool a0_6]] w fun e w'=>e= .returned (.bool r)∧Below w.heap.size w w':=by
 have HR0_1:=zA hr0_1;have HC0_1:=zA hc0_1;clear hr0_1 hc0_1;have HR0_2:=zA hr0_2;have HC0_2:=zA hc0_2;clear hr0_2 hc0_2;have HR0_3:=zA hr0_3;have HC0_3:=zA hc0_3;clear hr0_3 hc0_3;have HR0_4:=zA hr0_4;have HC0_4:=zA hc0_4;clear hr0_4 hc0_4;have HB:=zA (Below.refl w.heap.size w);have H:(if a0_0=1 then(if a0_0=2 then(scope_Right.j0 k false a0_0 l0_1 l0_2 l0_3 l0_4 a0_5 a0_6)else(scope_Right.j0 k (decide ((wrap64 ((l0_2.length:Int)+(l0_3.length:Int)))>0)) a0_0 l0_1 l0_2 l0_3 l0_4 a0_5 a0_6))else(if(l0_1.length:Int)>0 then(scope_Right.j0 k true a0_0 l0_1 l0_2 l0_3 l0_4 a0_5 a0_6)else(if a0_0=2 then(scope_Right.j0 k false a0_0 l0_1 l0_2 l0_3 l0_4 a0_5 a0_6)else(scope_Right.j0 k (decide ((wrap64 ((l0_2.length:Int)+(l0_3.length:Int)))>0)) a0_0 l0_1 l0_2 l0_3 l0_4 a0_5 a0_6))))=some r:=h;clear h;have HC2:=zA H;clear H;go_enter Try.func60,Try.ntmps60;go_upto_region 1 with (((with_reducible refine gate_dst (N:=1) rfl ?_);(try(refine gate_guard (by rfl) ?_;dsimp only));refine zE #[.int .i64 a0_0,.slice A0_1 l0_1.length c0_1,.slice A0_2 l0_2.length c0_2,.slice A0_3 l0_3.length c0_3,.slice A0_4 l0_4.length c0_4,.string a0_5,.bool a0_6] 45 ?_;intro gb320 hg w3 hbox hb;have BK320:=zA hbox;have GW320:=zZ HB.out hg;replace HB:=zS HB.out hb;clear hb hbox hg))
 go_cut [29] (fun v29 wc=> ∃ (kq:Nat) (x29_1:Bool),v29= .bool x29_1∧Aside0 (scope_Right.j0 kq x29_1 a0_0 l0_1 l0_2 l0_3 l0_4 a0_5 a0_6=some r)∧Aside0 (kq≤k)∧Aside0 (wc.heap[gb320]? =some (.cells #[.int .i64 a0_0,(.slice A0_1 l0_1.length c0_1),(.slice A0_2 l0_2.length c0_2),(.slice A0_3 l0_3.length c0_3),(.slice A0_4 l0_4.length c0_4),.string a0_5,.bool a0_6] 45 (0,0)))∧Aside0 (Below w.heap.size w wc));case first=>
  have H:=HC2.out;clear HC2;obtain⟨c4b1,H⟩|⟨c4b1,H⟩:=zn H
  ·obtain⟨c5b1,H⟩|⟨c5b1,H⟩:=zn H
   ·have H':=zA H;clear H;have hcz6_0:=zc7_0 BK320.out;go_wp2;go_meet;case rel=>exact⟨_,(false),(by rfl),H',⟨by omega⟩,⟨by exact BK320.out⟩,⟨HB.out⟩⟩
   ·have H':=zA H;clear H;have hcz7_0:=zc7_0 BK320.out;have hcz7_2:=zc7_2 BK320.out;have hcz7_3:=zc7_3 BK320.out;go_wp2;go_meet;case rel=>exact⟨_,(decide ((wrap64 ((l0_2.length:Int)+(l0_3.length:Int)))>0)),(by rfl),H',⟨by omega⟩,⟨by exact BK320.out⟩,⟨HB.out⟩⟩
  ·by_cases c8:(l0_1.length:Int)>0
   ·rw[if_pos c8]at H;have c8b1:decide (0<l0_1.length)=true:=decide_eq_true (by omega);clear c8;have H':=zA H;clear H;have hcz9_0:=zc7_0 BK320.out;have hcz9_1:=zc7_1 BK320.out;go_wp2;go_meet;case rel=>exact⟨_,(true),(by rfl),H',⟨by omega⟩,⟨by exact BK320.out⟩,⟨HB.out⟩⟩
   ·rw[if_neg c8]at H;have c8b1:decide (0<l0_1.length)=false:=decide_eq_false (by omega);clear c8;obtain⟨c10b1,H⟩|⟨c10b1,H⟩:=zn H
    ·have H':=zA H;clear H;have hcz11_0:=zc7_0 BK320.out;have hcz11_1:=zc7_1 BK320.out;go_wp2;go_meet;case rel=>exact⟨_,(false),(by rfl),H',⟨by omega⟩,⟨by exact BK320.out⟩,⟨HB.out⟩⟩
    ·have H':=zA H;clear H;have hcz12_0:=zc7_0 BK320.out;have hcz12_1:=zc7_1 BK320.out;have hcz12_2:=zc7_2 BK320.out;have hcz12_3:=zc7_3 BK320.out;go_wp2;go_meet;case rel=>exact⟨_,(decide ((wrap64 ((l0_2.length:Int)+(l0_3.length:Int)))>0)),(by rfl),H',⟨by omega⟩,⟨by exact BK320.out⟩,⟨HB.out⟩⟩
 case rest=>
  clear HC2;obtain⟨kq,x29_1,rfl,HA,HJ1,BK320,HB⟩:=hcut;cases kq with
  |zero=>exact absurd HA.out (by simp[scope_Right.j0])
  |succ kj1=>
   have H:=HA.out;clear HA;simp only[scope_Right.j0]at H;by_cases c13:x29_1=true
   ·subst c13;rw[if_pos rfl]at H;obtain rfl:=Option.some.inj H;go_wp2;go_ret;exact⟨by rfl,HB.out⟩
   ·replace c13:=Bool.eq_false_iff.mpr c13;subst c13;rw[if_neg (show ¬(false=true)by decide)]at H;have HC14:=zA H;clear H;go_upto_region 3 with (fail)
    go_cut [51] (fun v51 wc=> ∃ (kq:Nat) (x51_13:Bool),v51= .bool x51_13∧Aside0 (scope_Right.j1 kq x51_13 a0_0 l0_1 l0_2 l0_3 l0_4 a0_5 a0_6=some r)∧Aside0 (kq≤kj1)∧Aside0 (wc.heap[gb320]? =some (.cells #[.int .i64 a0_0,(.slice A0_1 l0_1.length c0_1),(.slice A0_2 l0_2.length c0_2),(.slice A0_3 l0_3.length c0_3),(.slice A0_4 l0_4.length c0_4),.string a0_5,.bool a0_6] 45 (0,0)))∧Aside0 (Below w.heap.size w wc));case first=>
     have H:=HC14.out;clear HC14;obtain⟨c15b1,H⟩|⟨c15b1,H⟩:=zn H
     ·obtain⟨c16b1,H⟩|⟨c16b1,H⟩:=zn H
      ·have H':=zA H;clear H;have hcz17_0:=zc7_0 BK320.out;go_wp2;go_meet;case rel=>exact⟨_,(false),(by rfl),H',⟨by have:=HJ1.out;omega⟩,⟨by exact BK320.out⟩,⟨HB.out⟩⟩
      ·have H':=zA H;clear H;have hcz18_0:=zc7_0 BK320.out;go_wp2;go_meet;case rel=>exact⟨_,(false),(by rfl),H',⟨by have:=HJ1.out;omega⟩,⟨by exact BK320.out⟩,⟨HB.out⟩⟩
     ·by_cases c19:a0_6=true
      ·subst c19;rw[if_pos rfl]at H;have H':=zA H;clear H;have hcz20_0:=zc7_0 BK320.out;have hcz20_6:=zc7_6 BK320.out;go_wp2;go_meet;case rel=>exact⟨_,(true),(by rfl),H',⟨by have:=HJ1.out;omega⟩,⟨by exact BK320.out⟩,⟨HB.out⟩⟩
      ·replace c19:=Bool.eq_false_iff.mpr c19;subst c19;rw[if_neg (show ¬(false=true)by decide)]at H;obtain⟨c21b1,H⟩|⟨c21b1,H⟩:=zn H
       ·have H':=zA H;clear H;have hcz22_0:=zc7_0 BK320.out;have hcz22_6:=zc7_6 BK320.out;go_wp2;go_meet;case rel=>exact⟨_,(false),(by rfl),H',⟨by have:=HJ1.out;omega⟩,⟨by exact BK320.out⟩,⟨HB.out⟩⟩
       ·have H':=zA H;clear H;have hcz23_0:=zc7_0 BK320.out;have hcz23_5:=zc7_5 BK320.out;have hcz23_6:=zc7_6 BK320.out;go_wp2;go_meet;case rel=>exact⟨_,((a0_5.toList !=([]:List UInt8))),(by(simp;exact lp_isE _)),H',⟨by have:=HJ1.out;omega⟩,⟨by exact BK320.out⟩,⟨HB.out⟩⟩
    case rest=>
     clear HC14;obtain⟨kq,x51_13,rfl,HA,HJ13,BK320,HB⟩:=hcut;cases kq with
     |zero=>exact absurd HA.out (by simp[scope_Right.j1])
     |succ kj13=>
      have H:=HA.out;clear HA;simp only[scope_Right.j1]at H;by_cases c24:x51_13=true
      ·subst c24;rw[if_pos rfl]at H;obtain rfl:=Option.some.inj H;go_wp2;go_ret;exact⟨by rfl,HB.out⟩
      ·replace c24:=Bool.eq_false_iff.mpr c24;subst c24;rw[if_neg (show ¬(false=true)by decide)]at H;have HC25:=zA H;clear H;go_upto_region 5 with (fail)
       go_cut [3] (fun v3 wc=> ∃ (kq:Nat) (x3_24:Bool),v3= .bool x3_24∧Aside0 (scope_Right.j2 kq x3_24 a0_0 l0_1 l0_2 l0_3 l0_4 a0_5 a0_6=some r)∧Aside0 (kq≤kj13)∧Aside0 (wc.heap[gb320]? =some (.cells #[.int .i64 a0_0,(.slice A0_1 l0_1.length c0_1),(.slice A0_2 l0_2.length c0_2),(.slice A0_3 l0_3.length c0_3),(.slice A0_4 l0_4.length c0_4),.string a0_5,.bool a0_6] 45 (0,0)))∧Aside0 (Below w.heap.size w wc));case first=>
        have H:=HC25.out;clear HC25;obtain⟨c26b0,H⟩|⟨c26b0,H⟩:=zb H
        ·have H':=zA H;clear H;have hcz27_0:=zc7_0 BK320.out;go_wp2;go_meet;case rel=>exact⟨_,(true),(by rfl),H',⟨by have:=HJ1.out;have:=HJ13.out;omega⟩,⟨by exact BK320.out⟩,⟨HB.out⟩⟩
        ·obtain⟨c28b0,H⟩|⟨c28b0,H⟩:=zb H
         ·have H':=zA H;clear H;have hcz29_0:=zc7_0 BK320.out;go_wp2;go_meet;case rel=>exact⟨_,(true),(by rfl),H',⟨by have:=HJ1.out;have:=HJ13.out;omega⟩,⟨by exact BK320.out⟩,⟨HB.out⟩⟩
         ·obtain⟨c30b0,H⟩|⟨c30b0,H⟩:=zb H
          ·have H':=zA H;clear H;have hcz31_0:=zc7_0 BK320.out;have hcz31_4:=zc7_4 BK320.out;go_wp2;go_meet;case rel=>exact⟨_,(decide ((l0_4.length:Int)>0)),(by(simp;done)),H',⟨by have:=HJ1.out;have:=HJ13.out;omega⟩,⟨by exact BK320.out⟩,⟨HB.out⟩⟩
          ·have H':=zA H;clear H;have hcz32_0:=zc7_0 BK320.out;go_wp2;go_meet;case rel=>exact⟨_,(false),(by rfl),H',⟨by have:=HJ1.out;have:=HJ13.out;omega⟩,⟨by exact BK320.out⟩,⟨HB.out⟩⟩
       case rest=>
        clear HC25;obtain⟨kq,x3_24,rfl,HA,HJ24,BK320,HB⟩:=hcut;cases kq with
        |zero=>exact absurd HA.out (by simp[scope_Right.j2])
        |succ kj24=>
         have H:=HA.out;clear HA;simp only[scope_Right.j2]at H;have HC33:=zA H;clear H;go_upto_region 6 with (fail)
         go_cut [87] (fun v87 wc=> ∃ (kq:Nat) (x87_32:Bool),v87= .bool x87_32∧Aside0 (scope_Right.j3 kq x87_32 a0_0 l0_1 l0_2 l0_3 l0_4 a0_5 a0_6=some r)∧Aside0 (kq≤kj24)∧Aside0 (wc.heap[gb320]? =some (.cells #[.int .i64 a0_0,(.slice A0_1 l0_1.length c0_1),(.slice A0_2 l0_2.length c0_2),(.slice A0_3 l0_3.length c0_3),(.slice A0_4 l0_4.length c0_4),.string a0_5,.bool a0_6] 45 (0,0)))∧Aside0 (Below w.heap.size w wc));case first=>
          have H:=HC33.out;clear HC33;by_cases c34:x3_24=true
          ·subst c34;rw[if_pos rfl]at H;obtain⟨t321,A35,H⟩:=zk H;have H':=zA H;clear H;have hcz36_4:=zc7_4 BK320.out;go_wp2_with ((go_at_call 82;(with_reducible refine(formula_Check.calls kj24 _ _ l0_4 t321 _ ?side1 ?side2 A35.out).mono ?_);(case side1=>exact Kd.C_below HR0_4.out HB.out);(case side2=>exact HC0_4.out);rintro e w37 ⟨rfl,hb⟩;replace BK320:=zB BK320.out hb;replace HB:=zS HB.out hb;(try clear hb)));go_meet;case rel=>exact⟨_,((t321 !=0)),(by rfl),H',⟨by have:=HJ1.out;have:=HJ13.out;have:=HJ24.out;omega⟩,⟨by exact BK320.out⟩,⟨HB.out⟩⟩
          ·replace c34:=Bool.eq_false_iff.mpr c34;subst c34;rw[if_neg (show ¬(false=true)by decide)]at H;by_cases c38:(l0_4.length:Int)>0
           ·rw[if_pos c38]at H;have c38b1:decide (0<l0_4.length)=true:=decide_eq_true (by omega);clear c38;have H':=zA H;clear H;have hcz39_4:=zc7_4 BK320.out;go_wp2;go_meet;case rel=>exact⟨_,(true),(by rfl),H',⟨by have:=HJ1.out;have:=HJ13.out;have:=HJ24.out;omega⟩,⟨by exact BK320.out⟩,⟨HB.out⟩⟩
           ·rw[if_neg c38]at H;have c38b1:decide (0<l0_4.length)=false:=decide_eq_false (by omega);clear c38;have H':=zA H;clear H;have hcz40_4:=zc7_4 BK320.out;go_wp2;go_meet;case rel=>exact⟨_,(false),(by rfl),H',⟨by have:=HJ1.out;have:=HJ13.out;have:=HJ24.out;omega⟩,⟨by exact BK320.out⟩,⟨HB.out⟩⟩
         case rest=>
          clear HC33;obtain⟨kq,x87_32,rfl,HA,HJ32,BK320,HB⟩:=hcut;cases kq with
          |zero=>exact absurd HA.out (by simp[scope_Right.j3])
          |succ kj32=>
           have H:=HA.out;clear HA;simp only[scope_Right.j3]at H;by_cases c41:x87_32=true
           ·subst c41;rw[if_pos rfl]at H;obtain rfl:=Option.some.inj H;go_wp2;go_ret;exact⟨by rfl,HB.out⟩
           ·replace c41:=Bool.eq_false_iff.mpr c41;subst c41;rw[if_neg (show ¬(false=true)by decide)]at H;obtain⟨c42b0,H⟩|⟨c42b0,H⟩:=zb H
            ·obtain⟨t322,A43,H⟩:=zk H;obtain rfl:=Option.some.inj H;have hcz44_0:=zc7_0 BK320.out;have hcz44_1:=zc7_1 BK320.out;go_wp2_with (((with_reducible refine gate_callee (f:=83) rfl ?_);refine zX (some 94) Try.func83 #[.slice A0_1 l0_1.length c0_1] ?_;(with_reducible refine(scope_basic.calls kj32 _ _ l0_1 t322 _ ?side1 ?side2 A43.out).mono ?_);(case side1=>exact Kd.C_below HR0_1.out HB.out);(case side2=>exact HC0_1.out);rintro e w45 ⟨rfl,hb⟩;refine⟨_,rfl,?_⟩;replace BK320:=zB BK320.out hb;replace HB:=zS HB.out hb;(try clear hb)));go_ret;exact⟨by rfl,HB.out⟩
            ·obtain⟨c46b0,H⟩|⟨c46b0,H⟩:=zb H
             ·obtain⟨t323,A47,H⟩:=zk H;obtain rfl:=Option.some.inj H;have hcz48_0:=zc7_0 BK320.out;have hcz48_2:=zc7_2 BK320.out;have hcz48_3:=zc7_3 BK320.out;go_wp2_with (((with_reducible refine gate_callee (f:=84) rfl ?_);refine zX (some 99) Try.func84 #[.agg #[.slice A0_2 l0_2.length c0_2,.slice A0_3 l0_3.length c0_3]] ?_;(with_reducible refine(scope_table.calls kj32 _ _ l0_2 _ _ l0_3 t323 _ ?side1 ?side2 ?side3 ?side4 A47.out).mono ?_);(case side1=>exact Kd.C_below HR0_2.out HB.out);(case side2=>exact HC0_2.out);(case side3=>exact Kd.C_below HR0_3.out HB.out);(case side4=>exact HC0_3.out);rintro e w49 ⟨rfl,hb⟩;refine⟨_,rfl,?_⟩;replace BK320:=zB BK320.out hb;replace HB:=zS HB.out hb;(try clear hb)));go_ret;exact⟨by rfl,HB.out⟩
             ·obtain⟨c50b0,H⟩|⟨c50b0,H⟩:=zb H
              ·obtain⟨t324,A51,H⟩:=zk H;obtain rfl:=Option.some.inj H;have hcz52_0:=zc7_0 BK320.out;have hcz52_5:=zc7_5 BK320.out;go_wp2_with (((with_reducible refine gate_callee (f:=44) rfl ?_);refine zY (some 104) Try.func44 (term_IsName.calls _ _ _ _ A51.out) ?_;rintro e w' ⟨rfl,⟨nd,rfl⟩⟩;refine⟨_,rfl,?_⟩));go_ret;exact⟨by rfl,by repeat((with_reducible first|exact HB.out|apply pw_below_drewN))⟩
              ·obtain⟨c53b0,H⟩|⟨c53b0,H⟩:=zb H
               ·obtain⟨t325,A54,H⟩:=zk H;obtain rfl:=Option.some.inj H;have hcz55_0:=zc7_0 BK320.out;have hcz55_5:=zc7_5 BK320.out;go_wp2_with (((with_reducible refine gate_callee (f:=25) rfl ?_);refine zY (some 110) Try.func25 (term_Check.calls _ _ _ _ _ _ _ A54.out) ?_;rintro e w56 ⟨rfl,hb⟩;refine⟨_,rfl,?_⟩;replace BK320:=zB BK320.out hb;replace HB:=zS HB.out hb;(try clear hb)));go_ret;exact⟨by rfl,HB.out⟩
               ·obtain⟨t326,A57,H⟩:=zk H;obtain rfl:=Option.some.inj H;obtain⟨_,_,_,_,_,_,_⟩:=zd7 BK320.out;go_wp2_with (((with_reducible refine gate_callee (f:=54) rfl ?_);refine zX (some 113) Try.func54 #[.agg #[.int .i64 a0_0,.slice A0_1 l0_1.length c0_1,.slice A0_2 l0_2.length c0_2,.slice A0_3 l0_3.length c0_3,.slice A0_4 l0_4.length c0_4,.string a0_5,.bool a0_6]] ?_;(with_reducible refine(scope_Needs.calls kj32 a0_0 _ _ l0_1 _ _ l0_2 _ _ l0_3 _ _ l0_4 a0_5 a0_6 t326 _ ?side1 ?side2 ?side3 ?side4 ?side5 ?side6 ?side7 ?side8 A57.out).mono ?_);(case side1=>exact Kd.C_below HR0_1.out HB.out);(case side2=>exact HC0_1.out);(case side3=>exact Kd.C_below HR0_2.out HB.out);(case side4=>exact HC0_2.out);(case side5=>exact Kd.C_below HR0_3.out HB.out);(case side6=>exact HC0_3.out);(case side7=>exact Kd.C_below HR0_4.out HB.out);(case side8=>exact HC0_4.out);rintro e w59 ⟨rfl,hb⟩;refine⟨_,rfl,?_⟩;replace BK320:=zB BK320.out hb;replace HB:=zS HB.out hb;(try clear hb)));go_ret;exact⟨by rfl,HB.out⟩
end Go.Proofs.Ytcfoebkbahpnaaa.L
