import Derived.Test.YtcfoebkbahpnaaaDCx0
namespace Go.Proofs.Ytcfoebkbahpnaaa.L
open Go.RowKit Go.Proofs.YtcfoebkbahpnaaaW.PrintWords Go.Proofs.YtcfoebkbahpnaaaW.PrintLast Go.Proofs.YtcfoebkbahpnaaaW.PrintMore
attribute [local go_sem] max2_int min2_int max_two min_two max_three min_three max_four min_four
set_option linter.unusedVariables false
set_option maxHeartbeats 8000000
set_option maxRecDepth 100000
set_option linter.unusedSimpArgs false
theorem eqA50 (d:Nat) (w:World) (x0 y0:Int) (x1 y1:ByteArray) (x2 y2:ByteArray) (x3 y3:ByteArray):
 (Op.equalIn (d+2) 50 (.agg #[.int .i64 x0,.string x1,.string x2,.string x3]) (.agg #[.int .i64 y0,.string y1,.string y2,.string y3])).run Try.prog w= .ok (x0==y0 && (x1.toList==y1.toList && (x2.toList==y2.toList && (x3.toList==y3.toList)))) w:=by
 refine eqA_of Try.underlying50 (by kernel_rfl) ?_;refine eqf_cons (by rfl) (by go_simp;rfl) (by go_simp;rfl) (by go_simp) ?_;refine eqf_cons (by rfl) (by go_simp;rfl) (by go_simp;rfl) (by go_simp) ?_;refine eqf_cons (by rfl) (by go_simp;rfl) (by go_simp;rfl) (by go_simp) ?_;exact eqf_last (by rfl) (by go_simp;rfl) (by go_simp;rfl) (by go_simp)
end Go.Proofs.Ytcfoebkbahpnaaa.L

namespace Go.Proofs.Ytcfoebkbahpnaaa.L
open Go.RowKit Go.Proofs.YtcfoebkbahpnaaaW.PrintWords Go.Proofs.YtcfoebkbahpnaaaW.PrintLast Go.Proofs.YtcfoebkbahpnaaaW.PrintMore
attribute [local go_sem] max2_int min2_int max_two min_two max_three min_three max_four min_four
set_option linter.unusedVariables false
set_option maxHeartbeats 8000000
set_option maxRecDepth 100000
set_option linter.unusedSimpArgs false
theorem eqA112 (d:Nat) (w:World) (x0 y0:Int) (x1 y1:Int) (x2 y2:ByteArray) (x3 y3:ByteArray) (x4 y4:ByteArray) (x5 y5:ByteArray) (x6 y6:Int):
 (Op.equalIn (d+3) 112 (.agg #[.int .i64 x0,.int .i64 x1,.string x2,.string x3,.string x4,.string x5,.int .i64 x6]) (.agg #[.int .i64 y0,.int .i64 y1,.string y2,.string y3,.string y4,.string y5,.int .i64 y6])).run Try.prog w= .ok (x0==y0 && ((x1==y1 && (x2.toList==y2.toList && (x3.toList==y3.toList && (x4.toList==y4.toList)))) && (x5.toList==y5.toList && (x6==y6)))) w:=by
 refine eqA_of Try.underlying112 (by kernel_rfl) ?_;refine eqf_cons (by rfl) (by go_simp;rfl) (by go_simp;rfl) (by go_simp) ?_;refine eqf_cons (by rfl) (by go_simp) (by go_simp) (eqA50 (d+0) w _ _ _ _ _ _ _ _) ?_;refine eqf_cons (by rfl) (by go_simp;rfl) (by go_simp;rfl) (by go_simp) ?_;exact eqf_last (by rfl) (by go_simp;rfl) (by go_simp;rfl) (by go_simp)
end Go.Proofs.Ytcfoebkbahpnaaa.L

namespace Go.Proofs.Ytcfoebkbahpnaaa.L
open Go.RowKit Go.Proofs.YtcfoebkbahpnaaaW.PrintWords Go.Proofs.YtcfoebkbahpnaaaW.PrintLast Go.Proofs.YtcfoebkbahpnaaaW.PrintMore
attribute [local go_sem] max2_int min2_int max_two min_two max_three min_three max_four min_four
set_option linter.unusedVariables false
set_option maxHeartbeats 8000000
set_option maxRecDepth 100000
set_option linter.unusedSimpArgs false
theorem eqA53 (d:Nat) (w:World) (x0 y0:Int) (x1 y1:ByteArray) (x2 y2:ByteArray) (x3 y3:ByteArray) (x4 y4:Int) (x5 y5:ByteArray) (x6 y6:ByteArray) (x7 y7:ByteArray) (x8 y8:Int) (x9 y9:ByteArray) (x10 y10:ByteArray) (x11 y11:ByteArray):
 (Op.equalIn (d+3) 53 (.agg #[.int .i64 x0,.string x1,.string x2,.string x3,.int .i64 x4,.string x5,.string x6,.string x7,.int .i64 x8,.string x9,.string x10,.string x11]) (.agg #[.int .i64 y0,.string y1,.string y2,.string y3,.int .i64 y4,.string y5,.string y6,.string y7,.int .i64 y8,.string y9,.string y10,.string y11])).run Try.prog w= .ok ((x0==y0 && (x1.toList==y1.toList && (x2.toList==y2.toList && (x3.toList==y3.toList)))) && ((x4==y4 && (x5.toList==y5.toList && (x6.toList==y6.toList && (x7.toList==y7.toList)))) && ((x8==y8 && (x9.toList==y9.toList && (x10.toList==y10.toList && (x11.toList==y11.toList))))))) w:=by
 refine eqA_of Try.underlying53 (by kernel_rfl) ?_;refine eqf_cons (by rfl) (by go_simp) (by go_simp) (eqA50 (d+0) w _ _ _ _ _ _ _ _) ?_;refine eqf_cons (by rfl) (by go_simp) (by go_simp) (eqA50 (d+0) w _ _ _ _ _ _ _ _) ?_;exact eqf_last (by rfl) (by go_simp) (by go_simp) (eqA50 (d+0) w _ _ _ _ _ _ _ _)
end Go.Proofs.Ytcfoebkbahpnaaa.L

namespace Go.Proofs.Ytcfoebkbahpnaaa.L
open Go.RowKit Go.Proofs.YtcfoebkbahpnaaaW.PrintWords Go.Proofs.YtcfoebkbahpnaaaW.PrintLast Go.Proofs.YtcfoebkbahpnaaaW.PrintMore
attribute [local go_sem] max2_int min2_int max_two min_two max_three min_three max_four min_four
set_option linter.unusedVariables false
set_option maxHeartbeats 8000000
set_option maxRecDepth 100000
set_option linter.unusedSimpArgs false
mutual
def formula_Needs.j0 : Nat → Bool → Int → Int → ByteArray → ByteArray → ByteArray → ByteArray → Int → Option (Int)
  | 0, _, _, _, _, _, _, _, _ => none
  | k + 1, x3, x122000, x122001, x122002, x122003, x122004, x122005, x122006 => if x3 = true then (some 0) else (if x122000 = 4 then (formula_Needs.j1 k true x122000 x122001 x122002 x122003 x122004 x122005 x122006) else (if x122000 = 5 then (formula_Needs.j1 k true x122000 x122001 x122002 x122003 x122004 x122005 x122006) else (if x122000 ≥ 18 then (formula_Needs.j1 k (decide (x122000 ≤ 23)) x122000 x122001 x122002 x122003 x122004 x122005 x122006) else (formula_Needs.j1 k false x122000 x122001 x122002 x122003 x122004 x122005 x122006))))
def formula_Needs.j1 : Nat → Bool → Int → Int → ByteArray → ByteArray → ByteArray → ByteArray → Int → Option (Int)
  | 0, _, _, _, _, _, _, _, _ => none
  | k + 1, x12, x122000, x122001, x122002, x122003, x122004, x122005, x122006 => if x12 = true then (some 1) else (if x122000 ≥ 6 then (if x122000 ≤ 17 then (formula_Needs.j2 k true x122000 x122001 x122002 x122003 x122004 x122005 x122006) else (formula_Needs.j2 k (x122000 == 24) x122000 x122001 x122002 x122003 x122004 x122005 x122006)) else (formula_Needs.j2 k (x122000 == 24) x122000 x122001 x122002 x122003 x122004 x122005 x122006))
def formula_Needs.j2 : Nat → Bool → Int → Int → ByteArray → ByteArray → ByteArray → ByteArray → Int → Option (Int)
  | 0, _, _, _, _, _, _, _, _ => none
  | k + 1, x31, x122000, x122001, x122002, x122003, x122004, x122005, x122006 => if x31 = true then (some 2) else (if x122000 = 25 then (some 3) else (if x122000 = 26 then (if x122006 ≥ 1 then (if x122006 ≤ 16 then (some x122006) else (some (-1))) else (some (-1))) else (some (-1))))
end
def formula_Needs.f (k : Nat) (a0_0 : Int) (a0_1 : Int) (a0_2 : ByteArray) (a0_3 : ByteArray) (a0_4 : ByteArray) (a0_5 : ByteArray) (a0_6 : Int) : Option (Int) := if a0_0 ≥ 1 then (formula_Needs.j0 k (decide (a0_0 ≤ 3)) a0_0 a0_1 a0_2 a0_3 a0_4 a0_5 a0_6) else (formula_Needs.j0 k false a0_0 a0_1 a0_2 a0_3 a0_4 a0_5 a0_6)
theorem formula_Needs.calls (k:Nat) (a0_0:Int) (a0_1:Int) (a0_2:ByteArray) (a0_3:ByteArray) (a0_4:ByteArray) (a0_5:ByteArray) (a0_6:Int) (r:Int) (w:World) (h:formula_Needs.f k a0_0 a0_1 a0_2 a0_3 a0_4 a0_5 a0_6=some r):
 Calls Try.prog 97 #[.agg #[.int .i64 a0_0,.int .i64 a0_1,.string a0_2,.string a0_3,.string a0_4,.string a0_5,.int .i64 a0_6]] w fun e w'=>e= .returned (.int .i64 r)∧Below w.heap.size w w':=by
 have HB:=zA (Below.refl w.heap.size w);have H:(if a0_0≥1 then(formula_Needs.j0 k (decide (a0_0≤3)) a0_0 a0_1 a0_2 a0_3 a0_4 a0_5 a0_6)else(formula_Needs.j0 k false a0_0 a0_1 a0_2 a0_3 a0_4 a0_5 a0_6))=some r:=h;clear h;have HC2:=zA H;clear H;go_enter Try.func97,Try.ntmps97;go_upto_region 1 with (((with_reducible refine gate_dst (N:=1) rfl ?_);refine zE #[.int .i64 a0_0,.int .i64 a0_1,.string a0_2,.string a0_3,.string a0_4,.string a0_5,.int .i64 a0_6] 112 ?_;intro gb121 hg w3 hbox hb;have BK121:=zA hbox;have GW121:=zZ HB.out hg;replace HB:=zS HB.out hb;clear hb hbox hg))
 go_cut [3] (fun v3 wc=> ∃ (kq:Nat) (x3_1:Bool),v3= .bool x3_1∧Aside0 (formula_Needs.j0 kq x3_1 a0_0 a0_1 a0_2 a0_3 a0_4 a0_5 a0_6=some r)∧Aside0 (kq≤k)∧Aside0 (wc.heap[gb121]? =some (.cells #[.int .i64 a0_0,.int .i64 a0_1,.string a0_2,.string a0_3,.string a0_4,.string a0_5,.int .i64 a0_6] 112 (0,0)))∧Aside0 (Below w.heap.size w wc));case first=>
  have H:=HC2.out;clear HC2;by_cases c4:a0_0≥1
  ·rw[if_pos c4]at H;have c4b0:decide (1≤a0_0)=true:=decide_eq_true c4;clear c4;have H':=zA H;clear H;have hcz5_0:=zc7_0 BK121.out;go_wp2;go_meet;case rel=>exact⟨_,(decide (a0_0≤3)),(by rfl),H',⟨by omega⟩,⟨by exact BK121.out⟩,⟨HB.out⟩⟩
  ·rw[if_neg c4]at H;have c4b0:decide (1≤a0_0)=false:=decide_eq_false c4;clear c4;have H':=zA H;clear H;have hcz6_0:=zc7_0 BK121.out;go_wp2;go_meet;case rel=>exact⟨_,(false),(by rfl),H',⟨by omega⟩,⟨by exact BK121.out⟩,⟨HB.out⟩⟩
 case rest=>
  clear HC2;obtain⟨kq,x3_1,rfl,HA,HJ1,BK121,HB⟩:=hcut;cases kq with
  |zero=>exact absurd HA.out (by simp[formula_Needs.j0])
  |succ kj1=>
   have H:=HA.out;clear HA;simp only[formula_Needs.j0]at H;by_cases c7:x3_1=true
   ·subst c7;rw[if_pos rfl]at H;obtain rfl:=Option.some.inj H;go_wp2;go_ret;exact⟨by rfl,HB.out⟩
   ·replace c7:=Bool.eq_false_iff.mpr c7;subst c7;rw[if_neg (show ¬(false=true)by decide)]at H;have HC8:=zA H;clear H;go_upto_region 3 with (fail)
    go_cut [12] (fun v12 wc=> ∃ (kq:Nat) (x12_7:Bool),v12= .bool x12_7∧Aside0 (formula_Needs.j1 kq x12_7 a0_0 a0_1 a0_2 a0_3 a0_4 a0_5 a0_6=some r)∧Aside0 (kq≤kj1)∧Aside0 (wc.heap[gb121]? =some (.cells #[.int .i64 a0_0,.int .i64 a0_1,.string a0_2,.string a0_3,.string a0_4,.string a0_5,.int .i64 a0_6] 112 (0,0)))∧Aside0 (Below w.heap.size w wc));case first=>
     have H:=HC8.out;clear HC8;obtain⟨c9b0,H⟩|⟨c9b0,H⟩:=zb H
     ·have H':=zA H;clear H;have hcz10_0:=zc7_0 BK121.out;go_wp2;go_meet;case rel=>exact⟨_,(true),(by rfl),H',⟨by have:=HJ1.out;omega⟩,⟨by exact BK121.out⟩,⟨HB.out⟩⟩
     ·obtain⟨c11b0,H⟩|⟨c11b0,H⟩:=zb H
      ·have H':=zA H;clear H;have hcz12_0:=zc7_0 BK121.out;go_wp2;go_meet;case rel=>exact⟨_,(true),(by rfl),H',⟨by have:=HJ1.out;omega⟩,⟨by exact BK121.out⟩,⟨HB.out⟩⟩
      ·by_cases c13:a0_0≥18
       ·rw[if_pos c13]at H;have c13b0:decide (18≤a0_0)=true:=decide_eq_true c13;clear c13;have H':=zA H;clear H;have hcz14_0:=zc7_0 BK121.out;go_wp2;go_meet;case rel=>exact⟨_,(decide (a0_0≤23)),(by rfl),H',⟨by have:=HJ1.out;omega⟩,⟨by exact BK121.out⟩,⟨HB.out⟩⟩
       ·rw[if_neg c13]at H;have c13b0:decide (18≤a0_0)=false:=decide_eq_false c13;clear c13;have H':=zA H;clear H;have hcz15_0:=zc7_0 BK121.out;go_wp2;go_meet;case rel=>exact⟨_,(false),(by rfl),H',⟨by have:=HJ1.out;omega⟩,⟨by exact BK121.out⟩,⟨HB.out⟩⟩
    case rest=>
     clear HC8;obtain⟨kq,x12_7,rfl,HA,HJ7,BK121,HB⟩:=hcut;cases kq with
     |zero=>exact absurd HA.out (by simp[formula_Needs.j1])
     |succ kj7=>
      have H:=HA.out;clear HA;simp only[formula_Needs.j1]at H;by_cases c16:x12_7=true
      ·subst c16;rw[if_pos rfl]at H;obtain rfl:=Option.some.inj H;go_wp2;go_ret;exact⟨by rfl,HB.out⟩
      ·replace c16:=Bool.eq_false_iff.mpr c16;subst c16;rw[if_neg (show ¬(false=true)by decide)]at H;have HC17:=zA H;clear H;go_upto_region 5 with (fail)
       go_cut [31] (fun v31 wc=> ∃ (kq:Nat) (x31_16:Bool),v31= .bool x31_16∧Aside0 (formula_Needs.j2 kq x31_16 a0_0 a0_1 a0_2 a0_3 a0_4 a0_5 a0_6=some r)∧Aside0 (kq≤kj7)∧Aside0 (wc.heap[gb121]? =some (.cells #[.int .i64 a0_0,.int .i64 a0_1,.string a0_2,.string a0_3,.string a0_4,.string a0_5,.int .i64 a0_6] 112 (0,0)))∧Aside0 (Below w.heap.size w wc));case first=>
        have H:=HC17.out;clear HC17;by_cases c18:a0_0≥6
        ·rw[if_pos c18]at H;have c18b0:decide (6≤a0_0)=true:=decide_eq_true c18;clear c18;obtain⟨c19b0,H⟩|⟨c19b0,H⟩:=zj H
         ·have H':=zA H;clear H;have hcz20_0:=zc7_0 BK121.out;go_wp2;go_meet;case rel=>exact⟨_,(true),(by rfl),H',⟨by have:=HJ1.out;have:=HJ7.out;omega⟩,⟨by exact BK121.out⟩,⟨HB.out⟩⟩
         ·have H':=zA H;clear H;have hcz21_0:=zc7_0 BK121.out;go_wp2;go_meet;case rel=>exact⟨_,((a0_0==24)),(by rfl),H',⟨by have:=HJ1.out;have:=HJ7.out;omega⟩,⟨by exact BK121.out⟩,⟨HB.out⟩⟩
        ·rw[if_neg c18]at H;have c18b0:decide (6≤a0_0)=false:=decide_eq_false c18;clear c18;have H':=zA H;clear H;have hcz22_0:=zc7_0 BK121.out;go_wp2;go_meet;case rel=>exact⟨_,((a0_0==24)),(by rfl),H',⟨by have:=HJ1.out;have:=HJ7.out;omega⟩,⟨by exact BK121.out⟩,⟨HB.out⟩⟩
       case rest=>
        clear HC17;obtain⟨kq,x31_16,rfl,HA,HJ16,BK121,HB⟩:=hcut;cases kq with
        |zero=>exact absurd HA.out (by simp[formula_Needs.j2])
        |succ kj16=>
         have H:=HA.out;clear HA;simp only[formula_Needs.j2]at H;by_cases c23:x31_16=true
         ·subst c23;rw[if_pos rfl]at H;obtain rfl:=Option.some.inj H;go_wp2;go_ret;exact⟨by rfl,HB.out⟩
         ·replace c23:=Bool.eq_false_iff.mpr c23;subst c23;rw[if_neg (show ¬(false=true)by decide)]at H;obtain⟨c24b0,H⟩|⟨c24b0,H⟩:=zb H
          ·obtain rfl:=Option.some.inj H;have hcz25_0:=zc7_0 BK121.out;go_wp2;go_ret;exact⟨by rfl,HB.out⟩
          ·obtain⟨c26b0,H⟩|⟨c26b0,H⟩:=zb H
           ·by_cases c27:a0_6≥1
            ·rw[if_pos c27]at H;have c27b0:decide (1≤a0_6)=true:=decide_eq_true c27;clear c27;obtain⟨c28b0,H⟩|⟨c28b0,H⟩:=zj H
             ·obtain rfl:=Option.some.inj H;have hcz29_0:=zc7_0 BK121.out;have hcz29_6:=zc7_6 BK121.out;go_wp2;go_ret;exact⟨by rfl,HB.out⟩
             ·obtain rfl:=Option.some.inj H;have hcz30_0:=zc7_0 BK121.out;have hcz30_6:=zc7_6 BK121.out;go_wp2;go_ret;exact⟨by rfl,HB.out⟩
            ·rw[if_neg c27]at H;have c27b0:decide (1≤a0_6)=false:=decide_eq_false c27;clear c27;obtain rfl:=Option.some.inj H;have hcz31_0:=zc7_0 BK121.out;have hcz31_6:=zc7_6 BK121.out;go_wp2;go_ret;exact⟨by rfl,HB.out⟩
           ·obtain rfl:=Option.some.inj H;have hcz32_0:=zc7_0 BK121.out;go_wp2;go_ret;exact⟨by rfl,HB.out⟩
end Go.Proofs.Ytcfoebkbahpnaaa.L
