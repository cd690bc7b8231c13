import Derived.Test.YtcfoebkbahpnaaaDCx0
import Derived.Test.YtcfoebkbahpnaaaDCx6
namespace Go.Proofs.Ytcfoebkbahpnaaa.L
open Go.RowKit Go.Proofs.YtcfoebkbahpnaaaW.PrintWords Go.Proofs.YtcfoebkbahpnaaaW.PrintLast Go.Proofs.YtcfoebkbahpnaaaW.PrintMore
attribute [local go_sem] max2_int min2_int max_two min_two max_three min_three max_four min_four
set_option linter.unusedVariables false
set_option maxHeartbeats 8000000
set_option maxRecDepth 100000
set_option linter.unusedSimpArgs false
def plan_Names.l0 : Nat → List ByteArray → List ByteArray → Int → Int → Option (Int)
  | 0, _, _, _, _ => none
  | k + 1, x0, x8, x9, x10 => if x10 < x9 then (if 0 ≤ x10 then (if x10 < (x8.length : Int) then ((term_Check.f k 1 (rdOf ByteArray.empty x8 x10) (⟨#[]⟩ : ByteArray) (⟨#[]⟩ : ByteArray)).bind fun t117 => (if t117 = 0 then (if x10 ≤ (x0.length : Int) then ((slices_Contains_string_string.f k (x0.take (x10 : Int).toNat) (rdOf ByteArray.empty x8 x10)).bind fun t119 => (if t119 = true then (some 2) else (plan_Names.l0 k x0 x8 x9 (wrap64 (x10 + 1))))) else (none)) else (some 2))) else (none)) else (none)) else (some 0)
def plan_Names.f (k : Nat) (l0 : List ByteArray) : Option (Int) := if (l0.length : Int) > 8 then (some 2) else (plan_Names.l0 k l0 l0 (l0.length : Int) 0)
theorem plan_Names.calls (k:Nat) (A0:Option Addr) (c0:Nat) (l0:List ByteArray) (r:Int) (w:World) (hr0:Kd.C Kd.string w A0 l0.length l0) (hc0:l0.length≤c0) (h:plan_Names.f k l0=some r):
 Calls Try.prog 10 #[.slice A0 l0.length c0] w fun e w'=>e= .returned (.int .i64 r)∧Below w.heap.size w w':=by
 have HR0:=zA hr0;have HC0:=zA hc0;clear hr0 hc0;have HB:=zA (Below.refl w.heap.size w);have H:(if(l0.length:Int)>8 then(some 2)else(plan_Names.l0 k l0 l0 (l0.length:Int) 0))=some r:=h;clear h;by_cases c2:(l0.length:Int)>8
 ·rw[if_pos c2]at H;have c2b0:decide (8<(l0.length:Int))=true:=decide_eq_true c2;clear c2;obtain rfl:=Option.some.inj H;go_enter Try.func10,Try.ntmps10;go_wp2;go_ret;exact⟨by rfl,HB.out⟩
 ·rw[if_neg c2]at H;have c2b0:decide (8<(l0.length:Int))=false:=decide_eq_false c2;clear c2;have H':=zA H;clear H;go_enter Try.func10,Try.ntmps10;go_wp2;go_loopg [10] k (fun kq v10 w'=> ∃ (x10_1:Int),v10= .int .i64 x10_1∧Aside0 (plan_Names.l0 kq l0 l0 (l0.length:Int) x10_1=some r)∧Aside0 (kq≤k)∧Aside0 (Below w.heap.size w w'));(case atStart=>exact⟨(0),(by rfl),H',⟨Nat.le_refl _⟩,⟨HB.out⟩⟩);case round=>
   clear H';(try clear c2b0);obtain⟨x10_1,rfl,HA,HK1,HB⟩:=hrel;cases gk with
   |zero=>exact absurd HA.out (by simp[plan_Names.l0])
   |succ k1=>
    have H:=HA.out;clear HA;simp only[plan_Names.l0]at H;obtain⟨c3b0,H⟩|⟨c3b0,H⟩:=zj H
    ·obtain⟨c4b0,H⟩|⟨_,H⟩:=zj H
     ·obtain⟨c5b0,H⟩|⟨_,H⟩:=zj H
      ·obtain⟨t117,A6,H⟩:=zk H;obtain⟨c7b1,H⟩|⟨c7b1,H⟩:=zn H
       ·have c8b0:=eq_true (zD:0≤x10_1);by_cases c9:x10_1≤(l0.length:Int)
        ·rw[if_pos c9]at H;have c9b0:=eq_true c9;have c9b1:decide (x10_1≤(l0.length:Int))=true:=decide_eq_true c9;clear c9;obtain⟨t119,A10,H⟩:=zk H;by_cases c11:t119=true
         ·subst c11;rw[if_pos rfl]at H;obtain rfl:=Option.some.inj H;have p116:0≤(x10_1:Int):=zD;have q116:x10_1<(l0.length:Int):=zD;obtain⟨ad116,e116,hx116_0⟩:=Kd.at_string HR0.out x10_1 p116 q116;cases e116
          replace hx116_0:=zh HB.out hx116_0;replace p116:=eq_true p116;replace q116:=eq_true q116;go_wp2_with (first|((with_reducible refine gate_callee (f:=25) rfl ?_);refine zY (some 17) Try.func25 (term_Check.calls _ _ _ _ _ _ _ A6.out) ?_;rintro e w12 ⟨rfl,hb⟩;refine⟨_,rfl,?_⟩;replace HB:=zS HB.out hb;(try clear hb);obtain⟨i013,hi013,_,hsz13,_⟩:=info_parts info9;obtain⟨hcut13,hA13,hC13⟩:=print_take_of (P:=Try.prog) Value.string ⟨#[]⟩ 23 9 .i64 Try.underlying23 hi013 hsz13 (some ad116) c0 l0 x10_1 (zD) (zD) HC0.out;have HR118:=zA (Kd.C_of_reads (h1:=fun _=>rfl) (hA13 _ (Kd.reads_of_C HR0.out)));have HC118:=zA hC13;clear hA13 hC13 hi013 hsz13)|(go_at_call 26;((rw[(show(x10_1).toNat=(l0.take (x10_1:Int).toNat).length from by have h1_:x10_1≤(l0.length:Int):=(by exact(zD));rw[List.length_take];omega)];(with_reducible refine(slices_Contains_string_string.calls k1 _ _ (l0.take (x10_1:Int).toNat) (rdOf ByteArray.empty l0 x10_1) true _ ?side1 ?side2 A10.out).mono ?_)));(case side1=>exact Kd.C_below HR118.out HB.out);(case side2=>exact HC118.out);rintro e w' ⟨rfl,⟨nd,rfl⟩⟩));go_ret;exact⟨by rfl,by repeat((with_reducible first|exact HB.out|apply pw_below_drewN))⟩
         ·replace c11:=Bool.eq_false_iff.mpr c11;subst c11;rw[if_neg (show ¬(false=true)by decide)]at H;have H':=zA H;clear H;have p116:0≤(x10_1:Int):=zD;have q116:x10_1<(l0.length:Int):=zD;obtain⟨ad116,e116,hx116_0⟩:=Kd.at_string HR0.out x10_1 p116 q116;cases e116
          replace hx116_0:=zh HB.out hx116_0;replace p116:=eq_true p116;replace q116:=eq_true q116;go_wp2_with (first|((with_reducible refine gate_callee (f:=25) rfl ?_);refine zY (some 17) Try.func25 (term_Check.calls _ _ _ _ _ _ _ A6.out) ?_;rintro e w14 ⟨rfl,hb⟩;refine⟨_,rfl,?_⟩;replace HB:=zS HB.out hb;(try clear hb);obtain⟨i015,hi015,_,hsz15,_⟩:=info_parts info9;obtain⟨hcut15,hA15,hC15⟩:=print_take_of (P:=Try.prog) Value.string ⟨#[]⟩ 23 9 .i64 Try.underlying23 hi015 hsz15 (some ad116) c0 l0 x10_1 (zD) (zD) HC0.out;have HR118:=zA (Kd.C_of_reads (h1:=fun _=>rfl) (hA15 _ (Kd.reads_of_C HR0.out)));have HC118:=zA hC15;clear hA15 hC15 hi015 hsz15)|(go_at_call 26;((rw[(show(x10_1).toNat=(l0.take (x10_1:Int).toNat).length from by have h1_:x10_1≤(l0.length:Int):=(by exact(zD));rw[List.length_take];omega)];(with_reducible refine(slices_Contains_string_string.calls k1 _ _ (l0.take (x10_1:Int).toNat) (rdOf ByteArray.empty l0 x10_1) false _ ?side1 ?side2 A10.out).mono ?_)));(case side1=>exact Kd.C_below HR118.out HB.out);(case side2=>exact HC118.out);rintro e w' ⟨rfl,⟨nd,rfl⟩⟩));go_roundg k1;(case measure=>have:=HK1.out;omega);case rel=>exact⟨(wrap64 (x10_1+1)),(by rfl),H',⟨by have:=HK1.out;omega⟩,⟨by repeat((with_reducible first|exact HB.out|apply pw_below_drewN))⟩⟩
        ·rw[if_neg c9]at H;exact absurd H (by simp)
       ·obtain rfl:=Option.some.inj H;have p116:0≤(x10_1:Int):=zD;have q116:x10_1<(l0.length:Int):=zD;obtain⟨ad116,e116,hx116_0⟩:=Kd.at_string HR0.out x10_1 p116 q116;cases e116
        replace hx116_0:=zh HB.out hx116_0;replace p116:=eq_true p116;replace q116:=eq_true q116;go_wp2_with (((with_reducible refine gate_callee (f:=25) rfl ?_);refine zY (some 17) Try.func25 (term_Check.calls _ _ _ _ _ _ _ A6.out) ?_;rintro e w16 ⟨rfl,hb⟩;refine⟨_,rfl,?_⟩;replace HB:=zS HB.out hb;(try clear hb)));go_ret;exact⟨by rfl,HB.out⟩
      ·cases H
     ·cases H
    ·obtain rfl:=Option.some.inj H;go_wp2;go_ret;exact⟨by rfl,HB.out⟩
mutual
def scope_Needs.j0 : Nat → Int → Bool → Option (Int)
  | 0, _, _ => none
  | k + 1, x4, x5 => if x5 = true then (some 0) else (if x4 = 7 then (scope_Needs.j1 k x4 (x4 == 7)) else (if x4 = 8 then (scope_Needs.j1 k x4 (x4 == 8)) else (scope_Needs.j1 k x4 (x4 == 9))))
def scope_Needs.j1 : Nat → Int → Bool → Option (Int)
  | 0, _, _ => none
  | k + 1, x4, x8 => if x8 = true then (some 1) else (if x4 = 3 then (some 2) else (if x4 = 4 then (some 2) else (if x4 = 5 then (some 2) else (if x4 = 6 then (some 2) else (some (-1))))))
end
def scope_Needs.f (k : Nat) (a0_0 : Int) (l0_1 : List (S53)) (l0_2 : List ByteArray) (l0_3 : List (List (S50))) (l0_4 : List (S112)) (a0_5 : ByteArray) (a0_6 : Bool) : Option (Int) := if a0_0 = 1 then (scope_Needs.j0 k a0_0 (a0_0 == 1)) else (scope_Needs.j0 k a0_0 (a0_0 == 2))
theorem scope_Needs.calls (k:Nat) (a0_0:Int) (A0_1:Option Addr) (c0_1:Nat) (l0_1:List (S53)) (A0_2:Option Addr) (c0_2:Nat) (l0_2:List ByteArray) (A0_3:Option Addr) (c0_3:Nat) (l0_3:List (List (S50))) (A0_4:Option Addr) (c0_4:Nat) (l0_4:List (S112)) (a0_5:ByteArray) (a0_6:Bool) (r:Int) (w:World) (hr0_1:Kd.C k53 w A0_1 l0_1.length l0_1) (hc0_1:l0_1.length≤c0_1) (hr0_2:Kd.C Kd.string w A0_2 l0_2.length l0_2) (hc0_2:l0_2.length≤c0_2) (hr0_3:Kd.C (Kd.slice 50 k50) w A0_3 l0_3.length l0_3) (hc0_3:l0_3.length≤c0_3) (hr0_4:Kd.C k112 w A0_4 l0_4.length l0_4) (hc0_4:l0_4.length≤c0_4) (h:scope_Needs.f k a0_0 l0_1 l0_2 l0_3 l0_4 a0_5 a0_6=some r):
 Calls Try.prog 54 #[.agg #[.int .i64 a0_0,.slice A0_1 l0_1.length c0_1,.slice A0_2 l0_2.length c0_2,.slice A0_3 l0_3.length c0_3,.slice A0_4 l0_4.length c0_4,.string a0_5,.bool a0_6]] w fun e w'=>e= .returned (.int .i64 r)∧Below w.heap.size w w':=by
 have HR0_1:=zA hr0_1;have HC0_1:=zA hc0_1;clear hr0_1 hc0_1;have HR0_2:=zA hr0_2;have HC0_2:=zA hc0_2;clear hr0_2 hc0_2;have HR0_3:=zA hr0_3;have HC0_3:=zA hc0_3;clear hr0_3 hc0_3;have HR0_4:=zA hr0_4;have HC0_4:=zA hc0_4;clear hr0_4 hc0_4;have HB:=zA (Below.refl w.heap.size w);have H:(if a0_0=1 then(scope_Needs.j0 k a0_0 (a0_0==1))else(scope_Needs.j0 k a0_0 (a0_0==2)))=some r:=h;clear h;have HC2:=zA H;clear H;go_enter Try.func54,Try.ntmps54;go_upto_if 5 with (((with_reducible refine gate_dst (N:=1) rfl ?_);refine zE #[.int .i64 a0_0,.slice A0_1 l0_1.length c0_1,.slice A0_2 l0_2.length c0_2,.slice A0_3 l0_3.length c0_3,.slice A0_4 l0_4.length c0_4,.string a0_5,.bool a0_6] 45 ?_;intro gb120 hg w3 hbox hb;have BK120:=zA hbox;have GW120:=zZ HB.out hg;replace HB:=zS HB.out hb;clear hb hbox hg;have hcz4_0:=zc7_0 BK120.out))
 go_cut [5] (fun v5 wc=> ∃ (kq:Nat) (x5_1:Bool),v5= .bool x5_1∧Aside0 (scope_Needs.j0 kq a0_0 x5_1=some r)∧Aside0 (kq≤k)∧Aside0 (wc.heap[gb120]? =some (.cells #[.int .i64 a0_0,(.slice A0_1 l0_1.length c0_1),(.slice A0_2 l0_2.length c0_2),(.slice A0_3 l0_3.length c0_3),(.slice A0_4 l0_4.length c0_4),.string a0_5,.bool a0_6] 45 (0,0)))∧Aside0 (Below w.heap.size w wc));case first=>
  have H:=HC2.out;clear HC2;obtain⟨c5b0,H⟩|⟨c5b0,H⟩:=zb H
  ·(rw[c5b0]);have H':=zA H;clear H;go_wp2;go_meet;case rel=>exact⟨_,((a0_0==1)),(by(simp[*];done)),H',⟨by omega⟩,⟨by exact BK120.out⟩,⟨HB.out⟩⟩
  ·(rw[c5b0]);have H':=zA H;clear H;go_wp2;go_meet;case rel=>exact⟨_,((a0_0==2)),(by rfl),H',⟨by omega⟩,⟨by exact BK120.out⟩,⟨HB.out⟩⟩
 case rest=>
  clear HC2;(try clear hcz4_0);obtain⟨kq,x5_1,rfl,HA,HJ1,BK120,HB⟩:=hcut;cases kq with
  |zero=>exact absurd HA.out (by simp[scope_Needs.j0])
  |succ kj1=>
   have H:=HA.out;clear HA;simp only[scope_Needs.j0]at H;by_cases c6:x5_1=true
   ·subst c6;rw[if_pos rfl]at H;obtain rfl:=Option.some.inj H;go_wp2;go_ret;exact⟨by rfl,HB.out⟩
   ·replace c6:=Bool.eq_false_iff.mpr c6;subst c6;rw[if_neg (show ¬(false=true)by decide)]at H;have HC7:=zA H;clear H;go_upto_if 8 with (fail)
    go_cut [8] (fun v8 wc=> ∃ (kq:Nat) (x8_6:Bool),v8= .bool x8_6∧Aside0 (scope_Needs.j1 kq a0_0 x8_6=some r)∧Aside0 (kq≤kj1)∧Aside0 (wc.heap[gb120]? =some (.cells #[.int .i64 a0_0,(.slice A0_1 l0_1.length c0_1),(.slice A0_2 l0_2.length c0_2),(.slice A0_3 l0_3.length c0_3),(.slice A0_4 l0_4.length c0_4),.string a0_5,.bool a0_6] 45 (0,0)))∧Aside0 (Below w.heap.size w wc));case first=>
     have H:=HC7.out;clear HC7;obtain⟨c8b0,H⟩|⟨c8b0,H⟩:=zb H
     ·(rw[c8b0]);have H':=zA H;clear H;go_wp2;go_meet;case rel=>exact⟨_,((a0_0==7)),(by(simp[*];done)),H',⟨by have:=HJ1.out;omega⟩,⟨by exact BK120.out⟩,⟨HB.out⟩⟩
     ·(rw[c8b0]);obtain⟨c9b0,H⟩|⟨c9b0,H⟩:=zb H
      ·have H':=zA H;clear H;go_wp2;go_meet;case rel=>exact⟨_,((a0_0==8)),(by(simp[*];done)),H',⟨by have:=HJ1.out;omega⟩,⟨by exact BK120.out⟩,⟨HB.out⟩⟩
      ·have H':=zA H;clear H;go_wp2;go_meet;case rel=>exact⟨_,((a0_0==9)),(by rfl),H',⟨by have:=HJ1.out;omega⟩,⟨by exact BK120.out⟩,⟨HB.out⟩⟩
    case rest=>
     clear HC7;obtain⟨kq,x8_6,rfl,HA,HJ6,BK120,HB⟩:=hcut;cases kq with
     |zero=>exact absurd HA.out (by simp[scope_Needs.j1])
     |succ kj6=>
      have H:=HA.out;clear HA;simp only[scope_Needs.j1]at H;by_cases c10:x8_6=true
      ·subst c10;rw[if_pos rfl]at H;obtain rfl:=Option.some.inj H;go_wp2;go_ret;exact⟨by rfl,HB.out⟩
      ·replace c10:=Bool.eq_false_iff.mpr c10;subst c10;rw[if_neg (show ¬(false=true)by decide)]at H;obtain⟨c11b0,H⟩|⟨c11b0,H⟩:=zb H
       ·obtain rfl:=Option.some.inj H;go_wp2;go_ret;exact⟨by rfl,HB.out⟩
       ·obtain⟨c12b0,H⟩|⟨c12b0,H⟩:=zb H
        ·obtain rfl:=Option.some.inj H;go_wp2;go_ret;exact⟨by rfl,HB.out⟩
        ·obtain⟨c13b0,H⟩|⟨c13b0,H⟩:=zb H
         ·obtain rfl:=Option.some.inj H;go_wp2;go_ret;exact⟨by rfl,HB.out⟩
         ·obtain⟨c14b0,H⟩|⟨c14b0,H⟩:=zb H
          ·obtain rfl:=Option.some.inj H;go_wp2;go_ret;exact⟨by rfl,HB.out⟩
          ·obtain rfl:=Option.some.inj H;go_wp2;go_ret;exact⟨by rfl,HB.out⟩
end Go.Proofs.Ytcfoebkbahpnaaa.L
