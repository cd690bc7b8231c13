import Derived.Test.YtcfoebkbahpnaaaDCx0
import Derived.Test.YtcfoebkbahpnaaaDCx17
import Derived.Test.YtcfoebkbahpnaaaDCx18
namespace Go.Proofs.Ytcfoebkbahpnaaa.L
open Go.RowKit Go.Proofs.YtcfoebkbahpnaaaW.PrintWords Go.Proofs.YtcfoebkbahpnaaaW.PrintLast Go.Proofs.YtcfoebkbahpnaaaW.PrintMore
attribute [local go_sem] max2_int min2_int max_two min_two max_three min_three max_four min_four
set_option linter.unusedVariables false
set_option maxHeartbeats 8000000
set_option maxRecDepth 100000
set_option linter.unusedSimpArgs false
mutual
def term_Check.j0 : Nat → Bool → Bool → Int → ByteArray → ByteArray → ByteArray → Option (Int)
  | 0, _, _, _, _, _, _ => none
  | k + 1, x3, x4, x288000, x288001, x288002, x288003 => if x288000 = 0 then (if x4 = true then (if (x288001.toList = ([] : List UInt8)) then (some 0) else (some 2)) else (some 2)) else (if x288000 = 1 then (if x4 = true then ((term_isIri.f x288001).bind fun t288 => (if t288 = true then (some 0) else (some 2))) else (some 2)) else (if x288000 = 3 then (term_Check.j1 k x3 x4 x288000 (x288000 == 3) x288000 x288001 x288002 x288003) else (term_Check.j1 k x3 x4 x288000 (x288000 == 4) x288000 x288001 x288002 x288003)))
def term_Check.j1 : Nat → Bool → Bool → Int → Bool → Int → ByteArray → ByteArray → ByteArray → Option (Int)
  | 0, _, _, _, _, _, _, _, _ => none
  | k + 1, x3, x4, x14, x31, x288000, x288001, x288002, x288003 => if x31 = true then (if x4 = true then ((term_IsName.f k x288001).bind fun t289 => (if t289 = true then (some 0) else (some 2))) else (some 2)) else (if x14 = 2 then ((term_isText.f k x288001).bind fun t290 => (if t290 = true then (if x288002.toList = ([] : List UInt8) then (if x288003.toList = ([] : List UInt8) then (some 0) else ((term_isLang.f k x288003).bind fun t291 => (if t291 = true then (some 0) else (some 2)))) else ((term_isIri.f x288002).bind fun t292 => (if t292 = true then (if x288003.toList = ([] : List UInt8) then (some 0) else (some 2)) else (some 2)))) else (some 2))) else (if x3 = true then (some 0) else (some 2)))
end
def term_Check.f (k : Nat) (a0_0 : Int) (a0_1 : ByteArray) (a0_2 : ByteArray) (a0_3 : ByteArray) : Option (Int) := if a0_2.toList = ([] : List UInt8) then (term_Check.j0 k false (a0_3.toList == ([] : List UInt8)) a0_0 a0_1 a0_2 a0_3) else (term_Check.j0 k false false a0_0 a0_1 a0_2 a0_3)
theorem term_Check.calls (k:Nat) (a0_0:Int) (a0_1:ByteArray) (a0_2:ByteArray) (a0_3:ByteArray) (r:Int) (w:World) (h:term_Check.f k a0_0 a0_1 a0_2 a0_3=some r):
 Calls Try.prog 25 #[.agg #[.int .i64 a0_0,.string a0_1,.string a0_2,.string a0_3]] w fun e w'=>e= .returned (.int .i64 r)∧Below w.heap.size w w':=by
 have HB:=zA (Below.refl w.heap.size w);have H:(if a0_2.toList=([]:List UInt8)then(term_Check.j0 k false (a0_3.toList==([]:List UInt8)) a0_0 a0_1 a0_2 a0_3)else(term_Check.j0 k false false a0_0 a0_1 a0_2 a0_3))=some r:=h;clear h;have HC2:=zA H;clear H;go_enter Try.func25,Try.ntmps25;go_upto_region 2 with (((with_reducible refine gate_dst (N:=1) rfl ?_);refine zE #[.int .i64 a0_0,.string a0_1,.string a0_2,.string a0_3] 50 ?_;intro gb287 hg w3 hbox hb;have BK287:=zA hbox;have GW287:=zZ HB.out hg;replace HB:=zS HB.out hb;clear hb hbox hg))
 go_cut [4] (fun v4 wc=> ∃ (kq:Nat) (x4_1:Bool),v4= .bool x4_1∧Aside0 (term_Check.j0 kq false x4_1 a0_0 a0_1 a0_2 a0_3=some r)∧Aside0 (kq≤k)∧Aside0 (wc.heap[gb287]? =some (.cells #[.int .i64 a0_0,.string a0_1,.string a0_2,.string a0_3] 50 (0,0)))∧Aside0 (Below w.heap.size w wc));case first=>
  have H:=HC2.out;clear HC2;obtain⟨c4b0,H⟩|⟨c4b0,H⟩:=zb H
  ·have H':=zA H;clear H;have hcz5_2:=zc42 BK287.out;have hcz5_3:=zc43 BK287.out;go_wp2;go_meet;case rel=>exact⟨_,((a0_3.toList==([]:List UInt8))),(by(simp;done)),H',⟨by omega⟩,⟨by exact BK287.out⟩,⟨HB.out⟩⟩
  ·have H':=zA H;clear H;have hcz6_2:=zc42 BK287.out;go_wp2;go_meet;case rel=>exact⟨_,(false),(by rfl),H',⟨by omega⟩,⟨by exact BK287.out⟩,⟨HB.out⟩⟩
 case rest=>
  clear HC2;obtain⟨kq,x4_1,rfl,HA,HJ1,BK287,HB⟩:=hcut;cases kq with
  |zero=>exact absurd HA.out (by simp[term_Check.j0])
  |succ kj1=>
   have H:=HA.out;clear HA;simp only[term_Check.j0]at H;by_cases c7:a0_0=0
   ·rw[if_pos c7]at H;have c7b0:(a0_0==0)=true:=beq_iff_eq.mpr c7;clear c7;by_cases c8:x4_1=true
    ·subst c8;rw[if_pos rfl]at H;by_cases c9:(a0_1.toList=([]:List UInt8))
     ·rw[if_pos c9]at H;have c9b0:(a0_1.toList==([]:List UInt8))=true:=beq_iff_eq.mpr c9;clear c9;obtain rfl:=Option.some.inj H;have hcz10_0:=zc40 BK287.out;have hcz10_1:=zc41 BK287.out;go_wp2;go_ret;exact⟨by rfl,HB.out⟩
     ·rw[if_neg c9]at H;have c9b0:(a0_1.toList==([]:List UInt8))=false:=beq_eq_false_iff_ne.mpr c9;obtain rfl:=Option.some.inj H;have hcz11_0:=zc40 BK287.out;have hcz11_1:=zc41 BK287.out;go_wp2;go_ret;exact⟨by rfl,HB.out⟩
    ·replace c8:=Bool.eq_false_iff.mpr c8;subst c8;rw[if_neg (show ¬(false=true)by decide)]at H;obtain rfl:=Option.some.inj H;have hcz12_0:=zc40 BK287.out;go_wp2;go_ret;exact⟨by rfl,HB.out⟩
   ·rw[if_neg c7]at H;have c7b0:(a0_0==0)=false:=beq_eq_false_iff_ne.mpr c7;by_cases c13:a0_0=1
    ·rw[if_pos c13]at H;have c13b0:(a0_0==1)=true:=beq_iff_eq.mpr c13;clear c13;by_cases c14:x4_1=true
     ·subst c14;rw[if_pos rfl]at H;obtain⟨t288,A15,H⟩:=zk H;by_cases c16:t288=true
      ·subst c16;rw[if_pos rfl]at H;obtain rfl:=Option.some.inj H;have hcz17_0:=zc40 BK287.out;have hcz17_1:=zc41 BK287.out;go_wp2_with ((go_at_call 43;(with_reducible refine(term_isIri.calls a0_1 true _ A15.out).mono ?_);rintro e w18 ⟨rfl,hb⟩;replace BK287:=zB BK287.out hb;replace HB:=zS HB.out hb;(try clear hb)));go_ret;exact⟨by rfl,HB.out⟩
      ·replace c16:=Bool.eq_false_iff.mpr c16;subst c16;rw[if_neg (show ¬(false=true)by decide)]at H;obtain rfl:=Option.some.inj H;have hcz19_0:=zc40 BK287.out;have hcz19_1:=zc41 BK287.out;go_wp2_with ((go_at_call 43;(with_reducible refine(term_isIri.calls a0_1 false _ A15.out).mono ?_);rintro e w20 ⟨rfl,hb⟩;replace BK287:=zB BK287.out hb;replace HB:=zS HB.out hb;(try clear hb)));go_ret;exact⟨by rfl,HB.out⟩
     ·replace c14:=Bool.eq_false_iff.mpr c14;subst c14;rw[if_neg (show ¬(false=true)by decide)]at H;obtain rfl:=Option.some.inj H;have hcz21_0:=zc40 BK287.out;go_wp2;go_ret;exact⟨by rfl,HB.out⟩
    ·rw[if_neg c13]at H;have c13b0:(a0_0==1)=false:=beq_eq_false_iff_ne.mpr c13;have HC22:=zA H;clear H;have hcz23_0:=zc40 BK287.out;go_upto_if 31 with (fail)
     go_cut [31] (fun v31 wc=> ∃ (kq:Nat) (x31_21:Bool),v31= .bool x31_21∧Aside0 (term_Check.j1 kq false x4_1 a0_0 x31_21 a0_0 a0_1 a0_2 a0_3=some r)∧Aside0 (kq≤kj1)∧Aside0 (wc.heap[gb287]? =some (.cells #[.int .i64 a0_0,.string a0_1,.string a0_2,.string a0_3] 50 (0,0)))∧Aside0 (Below w.heap.size w wc));case first=>
      have H:=HC22.out;clear HC22;obtain⟨c24b0,H⟩|⟨c24b0,H⟩:=zb H
      ·(rw[c24b0]);have H':=zA H;clear H;go_wp2;go_meet;case rel=>exact⟨_,((a0_0==3)),(by(simp[*];done)),H',⟨by have:=HJ1.out;omega⟩,⟨by exact BK287.out⟩,⟨HB.out⟩⟩
      ·(rw[c24b0]);have H':=zA H;clear H;go_wp2;go_meet;case rel=>exact⟨_,((a0_0==4)),(by rfl),H',⟨by have:=HJ1.out;omega⟩,⟨by exact BK287.out⟩,⟨HB.out⟩⟩
     case rest=>
      clear HC22;(try clear c7);(try clear c7b0);(try clear c13);(try clear c13b0);(try clear hcz23_0);obtain⟨kq,x31_21,rfl,HA,HJ21,BK287,HB⟩:=hcut;cases kq with
      |zero=>exact absurd HA.out (by simp[term_Check.j1])
      |succ kj21=>
       have H:=HA.out;clear HA;simp only[term_Check.j1]at H;by_cases c25:x31_21=true
       ·subst c25;rw[if_pos rfl]at H;by_cases c26:x4_1=true
        ·subst c26;rw[if_pos rfl]at H;obtain⟨t289,A27,H⟩:=zk H;by_cases c28:t289=true
         ·subst c28;rw[if_pos rfl]at H;obtain rfl:=Option.some.inj H;have hcz29_1:=zc41 BK287.out;go_wp2_with ((go_at_call 44;(with_reducible refine(term_IsName.calls kj21 a0_1 true _ A27.out).mono ?_);rintro e w' ⟨rfl,⟨nd,rfl⟩⟩));go_ret;exact⟨by rfl,by repeat((with_reducible first|exact HB.out|apply pw_below_drewN))⟩
         ·replace c28:=Bool.eq_false_iff.mpr c28;subst c28;rw[if_neg (show ¬(false=true)by decide)]at H;obtain rfl:=Option.some.inj H;have hcz30_1:=zc41 BK287.out;go_wp2_with ((go_at_call 44;(with_reducible refine(term_IsName.calls kj21 a0_1 false _ A27.out).mono ?_);rintro e w' ⟨rfl,⟨nd,rfl⟩⟩));go_ret;exact⟨by rfl,by repeat((with_reducible first|exact HB.out|apply pw_below_drewN))⟩
        ·replace c26:=Bool.eq_false_iff.mpr c26;subst c26;rw[if_neg (show ¬(false=true)by decide)]at H;obtain rfl:=Option.some.inj H;go_wp2;go_ret;exact⟨by rfl,HB.out⟩
       ·replace c25:=Bool.eq_false_iff.mpr c25;subst c25;rw[if_neg (show ¬(false=true)by decide)]at H;obtain⟨c31b0,H⟩|⟨c31b0,H⟩:=zb H
        ·obtain⟨t290,A32,H⟩:=zk H;by_cases c33:t290=true
         ·subst c33;rw[if_pos rfl]at H;obtain⟨c34b0,H⟩|⟨c34b0,H⟩:=zb H
          ·obtain⟨c35b0,H⟩|⟨c35b0,H⟩:=zb H
           ·obtain rfl:=Option.some.inj H;have hcz36_1:=zc41 BK287.out;have hcz36_2:=zc42 BK287.out;have hcz36_3:=zc43 BK287.out;go_wp2_with (((with_reducible refine gate_callee (f:=45) rfl ?_);refine zY (some 44) Try.func45 (term_isText.calls _ _ _ _ A32.out) ?_;rintro e w' ⟨rfl,⟨nd,rfl⟩⟩;refine⟨_,rfl,?_⟩));go_ret;exact⟨by rfl,by repeat((with_reducible first|exact HB.out|apply pw_below_drewN))⟩
           ·obtain⟨t291,A37,H⟩:=zk H;by_cases c38:t291=true
            ·subst c38;rw[if_pos rfl]at H;obtain rfl:=Option.some.inj H;have hcz39_1:=zc41 BK287.out;have hcz39_2:=zc42 BK287.out;have hcz39_3:=zc43 BK287.out;go_wp2_with (first|((with_reducible refine gate_callee (f:=45) rfl ?_);refine zY (some 44) Try.func45 (term_isText.calls _ _ _ _ A32.out) ?_;rintro e w' ⟨rfl,⟨nd,rfl⟩⟩;refine⟨_,rfl,?_⟩)|(go_at_call 46;(with_reducible refine(term_isLang.calls kj21 a0_3 true _ A37.out).mono ?_);rintro e w' ⟨rfl,⟨nd,rfl⟩⟩));go_ret;exact⟨by rfl,by repeat((with_reducible first|exact HB.out|apply pw_below_drewN))⟩
            ·replace c38:=Bool.eq_false_iff.mpr c38;subst c38;rw[if_neg (show ¬(false=true)by decide)]at H;obtain rfl:=Option.some.inj H;have hcz40_1:=zc41 BK287.out;have hcz40_2:=zc42 BK287.out;have hcz40_3:=zc43 BK287.out;go_wp2_with (first|((with_reducible refine gate_callee (f:=45) rfl ?_);refine zY (some 44) Try.func45 (term_isText.calls _ _ _ _ A32.out) ?_;rintro e w' ⟨rfl,⟨nd,rfl⟩⟩;refine⟨_,rfl,?_⟩)|(go_at_call 46;(with_reducible refine(term_isLang.calls kj21 a0_3 false _ A37.out).mono ?_);rintro e w' ⟨rfl,⟨nd,rfl⟩⟩));go_ret;exact⟨by rfl,by repeat((with_reducible first|exact HB.out|apply pw_below_drewN))⟩
          ·obtain⟨t292,A41,H⟩:=zk H;by_cases c42:t292=true
           ·subst c42;rw[if_pos rfl]at H;obtain⟨c43b0,H⟩|⟨c43b0,H⟩:=zb H
            ·obtain rfl:=Option.some.inj H;have hcz44_1:=zc41 BK287.out;have hcz44_2:=zc42 BK287.out;go_wp2_with (first|((with_reducible refine gate_callee (f:=45) rfl ?_);refine zY (some 44) Try.func45 (term_isText.calls _ _ _ _ A32.out) ?_;rintro e w' ⟨rfl,⟨nd,rfl⟩⟩;refine⟨_,rfl,?_⟩)|(go_at_call 43;(with_reducible refine(term_isIri.calls a0_2 true _ A41.out).mono ?_);rintro e w45 ⟨rfl,hb⟩;replace BK287:=zA (blk_below (g:=gb287) (o:= .cells #[.int .i64 a0_0,.string a0_1,.string a0_2,.string a0_3] 50 (0,0)) (by(with_reducible repeat(refine blk_drewN ?_ _));exact BK287.out) hb);replace HB:=zA (below_step (by repeat((with_reducible first|exact HB.out|apply pw_below_drewN))) hb);(try clear hb);have hcz46_3:=zc43 BK287.out));go_ret;exact⟨by rfl,HB.out⟩
            ·obtain rfl:=Option.some.inj H;have hcz47_1:=zc41 BK287.out;have hcz47_2:=zc42 BK287.out;go_wp2_with (first|((with_reducible refine gate_callee (f:=45) rfl ?_);refine zY (some 44) Try.func45 (term_isText.calls _ _ _ _ A32.out) ?_;rintro e w' ⟨rfl,⟨nd,rfl⟩⟩;refine⟨_,rfl,?_⟩)|(go_at_call 43;(with_reducible refine(term_isIri.calls a0_2 true _ A41.out).mono ?_);rintro e w48 ⟨rfl,hb⟩;replace BK287:=zA (blk_below (g:=gb287) (o:= .cells #[.int .i64 a0_0,.string a0_1,.string a0_2,.string a0_3] 50 (0,0)) (by(with_reducible repeat(refine blk_drewN ?_ _));exact BK287.out) hb);replace HB:=zA (below_step (by repeat((with_reducible first|exact HB.out|apply pw_below_drewN))) hb);(try clear hb);have hcz49_3:=zc43 BK287.out));go_ret;exact⟨by rfl,HB.out⟩
           ·replace c42:=Bool.eq_false_iff.mpr c42;subst c42;rw[if_neg (show ¬(false=true)by decide)]at H;obtain rfl:=Option.some.inj H;have hcz50_1:=zc41 BK287.out;have hcz50_2:=zc42 BK287.out;go_wp2_with (first|((with_reducible refine gate_callee (f:=45) rfl ?_);refine zY (some 44) Try.func45 (term_isText.calls _ _ _ _ A32.out) ?_;rintro e w' ⟨rfl,⟨nd,rfl⟩⟩;refine⟨_,rfl,?_⟩)|(go_at_call 43;(with_reducible refine(term_isIri.calls a0_2 false _ A41.out).mono ?_);rintro e w51 ⟨rfl,hb⟩;replace BK287:=zA (blk_below (g:=gb287) (o:= .cells #[.int .i64 a0_0,.string a0_1,.string a0_2,.string a0_3] 50 (0,0)) (by(with_reducible repeat(refine blk_drewN ?_ _));exact BK287.out) hb);replace HB:=zA (below_step (by repeat((with_reducible first|exact HB.out|apply pw_below_drewN))) hb);(try clear hb)));go_ret;exact⟨by rfl,HB.out⟩
         ·replace c33:=Bool.eq_false_iff.mpr c33;subst c33;rw[if_neg (show ¬(false=true)by decide)]at H;obtain rfl:=Option.some.inj H;have hcz52_1:=zc41 BK287.out;go_wp2_with (((with_reducible refine gate_callee (f:=45) rfl ?_);refine zY (some 44) Try.func45 (term_isText.calls _ _ _ _ A32.out) ?_;rintro e w' ⟨rfl,⟨nd,rfl⟩⟩;refine⟨_,rfl,?_⟩));go_ret;exact⟨by rfl,by repeat((with_reducible first|exact HB.out|apply pw_below_drewN))⟩
        ·rw[if_neg (show ¬(false=true)by decide)]at H;obtain rfl:=Option.some.inj H;go_wp2;go_ret;exact⟨by rfl,HB.out⟩
end Go.Proofs.Ytcfoebkbahpnaaa.L

namespace Go.Proofs.Ytcfoebkbahpnaaa.L
open Go.RowKit Go.Proofs.YtcfoebkbahpnaaaW.PrintWords Go.Proofs.YtcfoebkbahpnaaaW.PrintLast Go.Proofs.YtcfoebkbahpnaaaW.PrintMore
attribute [local go_sem] max2_int min2_int max_two min_two max_three min_three max_four min_four
set_option linter.unusedVariables false
set_option maxHeartbeats 8000000
set_option maxRecDepth 100000
set_option linter.unusedSimpArgs false
def legationref03_In.l0 : Nat → List ByteArray → ByteArray → Int → Option (Bool)
  | 0, _, _, _ => none
  | k + 1, x0, x1, x5 => if x5 < (x0.length : Int) then (if 0 ≤ x5 then (if (rdOf ByteArray.empty x0 x5).toList = x1.toList then (some true) else (legationref03_In.l0 k x0 x1 (wrap64 (x5 + 1)))) else (none)) else (some false)
def legationref03_In.f (k : Nat) (l0 : List ByteArray) (a1 : ByteArray) : Option (Bool) := legationref03_In.l0 k l0 a1 0
theorem legationref03_In.calls (k:Nat) (A0:Option Addr) (c0:Nat) (l0:List ByteArray) (a1:ByteArray) (r:Bool) (w:World) (hr0:Kd.C Kd.string w A0 l0.length l0) (hc0:l0.length≤c0) (h:legationref03_In.f k l0 a1=some r):
 Calls Try.prog 24 #[.slice A0 l0.length c0,.string a1] w fun e w'=>e= .returned (.bool r)∧Drawn0 w w':=by
 have HR0:=zA hr0;have HC0:=zA hc0;clear hr0 hc0;have H:(legationref03_In.l0 k l0 a1 0)=some r:=h;clear h;have H':=zA H;clear H;go_enter Try.func24,Try.ntmps24;go_wp2;go_loopg [5] k (fun kq v5 w'=> ∃ (x5_1:Int),v5= .int .i64 x5_1∧Aside0 (legationref03_In.l0 kq l0 a1 x5_1=some r)∧Aside0 (kq≤k)∧Drawn0 w w');(case atStart=>exact⟨(0),(by rfl),H',⟨Nat.le_refl _⟩,by repeat(exact Drawn0.refl _)⟩);case round=>
  clear H';obtain⟨x5_1,rfl,HA,HK1,⟨m1,rfl⟩⟩:=hrel;cases gk with
  |zero=>exact absurd HA.out (by simp[legationref03_In.l0])
  |succ k1=>
   have H:=HA.out;clear HA;simp only[legationref03_In.l0]at H;obtain⟨c3b0,H⟩|⟨c3b0,H⟩:=zj H
   ·obtain⟨c4b0,H⟩|⟨_,H⟩:=zj H
    ·obtain⟨c5b0,H⟩|⟨c5b0,H⟩:=zb H
     ·obtain rfl:=Option.some.inj H;have p101:0≤(x5_1:Int):=zD;have q101:x5_1<(l0.length:Int):=zD;obtain⟨ad101,e101,hx101_0⟩:=Kd.at_string HR0.out x5_1 p101 q101;cases e101
      replace p101:=eq_true p101;replace q101:=eq_true q101;go_wp2;go_ret;exact⟨by rfl,by repeat(first|exact Drawn0.refl _|apply Drawn0.step)⟩
     ·have H':=zA H;clear H;have p101:0≤(x5_1:Int):=zD;have q101:x5_1<(l0.length:Int):=zD;obtain⟨ad101,e101,hx101_0⟩:=Kd.at_string HR0.out x5_1 p101 q101;cases e101
      replace p101:=eq_true p101;replace q101:=eq_true q101;go_wp2;go_roundg k1;(case measure=>have:=HK1.out;omega);case rel=>exact⟨(wrap64 (x5_1+1)),(by rfl),H',⟨by have:=HK1.out;omega⟩,by repeat(first|exact Drawn0.refl _|apply Drawn0.step)⟩
    ·cases H
   ·obtain rfl:=Option.some.inj H;go_wp2;go_ret;exact⟨by rfl,by repeat(first|exact Drawn0.refl _|apply Drawn0.step)⟩
mutual
def legationref07_Needs.j0 : Nat → Int → Bool → Option (Int)
  | 0, _, _ => none
  | k + 1, x4, x5 => if x5 = true then (some 0) else (if x4 = 7 then (legationref07_Needs.j1 k x4 (x4 == 7)) else (if x4 = 8 then (legationref07_Needs.j1 k x4 (x4 == 8)) else (legationref07_Needs.j1 k x4 (x4 == 9))))
def legationref07_Needs.j1 : Nat → Int → Bool → Option (Int)
  | 0, _, _ => none
  | k + 1, x4, x8 => if x8 = true then (some 1) else (if x4 = 3 then (some 2) else (if x4 = 4 then (some 2) else (if x4 = 5 then (some 2) else (if x4 = 6 then (some 2) else (some (-1))))))
end
def legationref07_Needs.f (k : Nat) (a0_0 : Int) (l0_1 : List (S53)) (l0_2 : List ByteArray) (l0_3 : List (List (S50))) (l0_4 : List (S112)) (a0_5 : ByteArray) (a0_6 : Bool) : Option (Int) := if a0_0 = 1 then (legationref07_Needs.j0 k a0_0 (a0_0 == 1)) else (legationref07_Needs.j0 k a0_0 (a0_0 == 2))
theorem legationref07_Needs.calls (k:Nat) (a0_0:Int) (A0_1:Option Addr) (c0_1:Nat) (l0_1:List (S53)) (A0_2:Option Addr) (c0_2:Nat) (l0_2:List ByteArray) (A0_3:Option Addr) (c0_3:Nat) (l0_3:List (List (S50))) (A0_4:Option Addr) (c0_4:Nat) (l0_4:List (S112)) (a0_5:ByteArray) (a0_6:Bool) (r:Int) (w:World) (hr0_1:Kd.C k53 w A0_1 l0_1.length l0_1) (hc0_1:l0_1.length≤c0_1) (hr0_2:Kd.C Kd.string w A0_2 l0_2.length l0_2) (hc0_2:l0_2.length≤c0_2) (hr0_3:Kd.C (Kd.slice 50 k50) w A0_3 l0_3.length l0_3) (hc0_3:l0_3.length≤c0_3) (hr0_4:Kd.C k112 w A0_4 l0_4.length l0_4) (hc0_4:l0_4.length≤c0_4) (h:legationref07_Needs.f k a0_0 l0_1 l0_2 l0_3 l0_4 a0_5 a0_6=some r):
 Calls Try.prog 34 #[.agg #[.int .i64 a0_0,.slice A0_1 l0_1.length c0_1,.slice A0_2 l0_2.length c0_2,.slice A0_3 l0_3.length c0_3,.slice A0_4 l0_4.length c0_4,.string a0_5,.bool a0_6]] w fun e w'=>e= .returned (.int .i64 r)∧Below w.heap.size w w':=by
 have HR0_1:=zA hr0_1;have HC0_1:=zA hc0_1;clear hr0_1 hc0_1;have HR0_2:=zA hr0_2;have HC0_2:=zA hc0_2;clear hr0_2 hc0_2;have HR0_3:=zA hr0_3;have HC0_3:=zA hc0_3;clear hr0_3 hc0_3;have HR0_4:=zA hr0_4;have HC0_4:=zA hc0_4;clear hr0_4 hc0_4;have HB:=zA (Below.refl w.heap.size w);have H:(if a0_0=1 then(legationref07_Needs.j0 k a0_0 (a0_0==1))else(legationref07_Needs.j0 k a0_0 (a0_0==2)))=some r:=h;clear h;have HC2:=zA H;clear H;go_enter Try.func34,Try.ntmps34;go_upto_if 5 with (((with_reducible refine gate_dst (N:=1) rfl ?_);refine zE #[.int .i64 a0_0,.slice A0_1 l0_1.length c0_1,.slice A0_2 l0_2.length c0_2,.slice A0_3 l0_3.length c0_3,.slice A0_4 l0_4.length c0_4,.string a0_5,.bool a0_6] 45 ?_;intro gb102 hg w3 hbox hb;have BK102:=zA hbox;have GW102:=zZ HB.out hg;replace HB:=zS HB.out hb;clear hb hbox hg;have hcz4_0:=zc7_0 BK102.out))
 go_cut [5] (fun v5 wc=> ∃ (kq:Nat) (x5_1:Bool),v5= .bool x5_1∧Aside0 (legationref07_Needs.j0 kq a0_0 x5_1=some r)∧Aside0 (kq≤k)∧Aside0 (wc.heap[gb102]? =some (.cells #[.int .i64 a0_0,(.slice A0_1 l0_1.length c0_1),(.slice A0_2 l0_2.length c0_2),(.slice A0_3 l0_3.length c0_3),(.slice A0_4 l0_4.length c0_4),.string a0_5,.bool a0_6] 45 (0,0)))∧Aside0 (Below w.heap.size w wc));case first=>
  have H:=HC2.out;clear HC2;obtain⟨c5b0,H⟩|⟨c5b0,H⟩:=zb H
  ·(rw[c5b0]);have H':=zA H;clear H;go_wp2;go_meet;case rel=>exact⟨_,((a0_0==1)),(by(simp[*];done)),H',⟨by omega⟩,⟨by exact BK102.out⟩,⟨HB.out⟩⟩
  ·(rw[c5b0]);have H':=zA H;clear H;go_wp2;go_meet;case rel=>exact⟨_,((a0_0==2)),(by rfl),H',⟨by omega⟩,⟨by exact BK102.out⟩,⟨HB.out⟩⟩
 case rest=>
  clear HC2;(try clear hcz4_0);obtain⟨kq,x5_1,rfl,HA,HJ1,BK102,HB⟩:=hcut;cases kq with
  |zero=>exact absurd HA.out (by simp[legationref07_Needs.j0])
  |succ kj1=>
   have H:=HA.out;clear HA;simp only[legationref07_Needs.j0]at H;by_cases c6:x5_1=true
   ·subst c6;rw[if_pos rfl]at H;obtain rfl:=Option.some.inj H;go_wp2;go_ret;exact⟨by rfl,HB.out⟩
   ·replace c6:=Bool.eq_false_iff.mpr c6;subst c6;rw[if_neg (show ¬(false=true)by decide)]at H;have HC7:=zA H;clear H;go_upto_if 8 with (fail)
    go_cut [8] (fun v8 wc=> ∃ (kq:Nat) (x8_6:Bool),v8= .bool x8_6∧Aside0 (legationref07_Needs.j1 kq a0_0 x8_6=some r)∧Aside0 (kq≤kj1)∧Aside0 (wc.heap[gb102]? =some (.cells #[.int .i64 a0_0,(.slice A0_1 l0_1.length c0_1),(.slice A0_2 l0_2.length c0_2),(.slice A0_3 l0_3.length c0_3),(.slice A0_4 l0_4.length c0_4),.string a0_5,.bool a0_6] 45 (0,0)))∧Aside0 (Below w.heap.size w wc));case first=>
     have H:=HC7.out;clear HC7;obtain⟨c8b0,H⟩|⟨c8b0,H⟩:=zb H
     ·(rw[c8b0]);have H':=zA H;clear H;go_wp2;go_meet;case rel=>exact⟨_,((a0_0==7)),(by(simp[*];done)),H',⟨by have:=HJ1.out;omega⟩,⟨by exact BK102.out⟩,⟨HB.out⟩⟩
     ·(rw[c8b0]);obtain⟨c9b0,H⟩|⟨c9b0,H⟩:=zb H
      ·have H':=zA H;clear H;go_wp2;go_meet;case rel=>exact⟨_,((a0_0==8)),(by(simp[*];done)),H',⟨by have:=HJ1.out;omega⟩,⟨by exact BK102.out⟩,⟨HB.out⟩⟩
      ·have H':=zA H;clear H;go_wp2;go_meet;case rel=>exact⟨_,((a0_0==9)),(by rfl),H',⟨by have:=HJ1.out;omega⟩,⟨by exact BK102.out⟩,⟨HB.out⟩⟩
    case rest=>
     clear HC7;obtain⟨kq,x8_6,rfl,HA,HJ6,BK102,HB⟩:=hcut;cases kq with
     |zero=>exact absurd HA.out (by simp[legationref07_Needs.j1])
     |succ kj6=>
      have H:=HA.out;clear HA;simp only[legationref07_Needs.j1]at H;by_cases c10:x8_6=true
      ·subst c10;rw[if_pos rfl]at H;obtain rfl:=Option.some.inj H;go_wp2;go_ret;exact⟨by rfl,HB.out⟩
      ·replace c10:=Bool.eq_false_iff.mpr c10;subst c10;rw[if_neg (show ¬(false=true)by decide)]at H;obtain⟨c11b0,H⟩|⟨c11b0,H⟩:=zb H
       ·obtain rfl:=Option.some.inj H;go_wp2;go_ret;exact⟨by rfl,HB.out⟩
       ·obtain⟨c12b0,H⟩|⟨c12b0,H⟩:=zb H
        ·obtain rfl:=Option.some.inj H;go_wp2;go_ret;exact⟨by rfl,HB.out⟩
        ·obtain⟨c13b0,H⟩|⟨c13b0,H⟩:=zb H
         ·obtain rfl:=Option.some.inj H;go_wp2;go_ret;exact⟨by rfl,HB.out⟩
         ·obtain⟨c14b0,H⟩|⟨c14b0,H⟩:=zb H
          ·obtain rfl:=Option.some.inj H;go_wp2;go_ret;exact⟨by rfl,HB.out⟩
          ·obtain rfl:=Option.some.inj H;go_wp2;go_ret;exact⟨by rfl,HB.out⟩
def legationref01_Between.f (a0 : Int) (a1 : Int) (a2 : Int) : Option (Bool) := if a0 ≥ a1 then (some (decide (a0 ≤ a2))) else (some false)
theorem legationref01_Between.calls (a0:Int) (a1:Int) (a2:Int) (r:Bool) (w:World) (h:legationref01_Between.f a0 a1 a2=some r):
 Calls Try.prog 65 #[.int .u8 a0,.int .u8 a1,.int .u8 a2] w fun e w'=>e= .returned (.bool r)∧Drawn0 w w':=by
 have H:(if a0≥a1 then(some (decide (a0≤a2)))else(some false))=some r:=h;clear h;by_cases c4:a0≥a1
 ·rw[if_pos c4]at H;have c4b0:decide (a1≤a0)=true:=decide_eq_true c4;clear c4;obtain rfl:=Option.some.inj H;go_enter Try.func65,Try.ntmps65;go_wp2;go_ret;exact⟨by rfl,by repeat(exact Drawn0.refl _)⟩
 ·rw[if_neg c4]at H;have c4b0:decide (a1≤a0)=false:=decide_eq_false c4;clear c4;obtain rfl:=Option.some.inj H;go_enter Try.func65,Try.ntmps65;go_wp2;go_ret;exact⟨by rfl,by repeat(exact Drawn0.refl _)⟩
def legationref01_Is.l0 : Nat → Int → ByteArray → Int → Option (Bool)
  | 0, _, _, _ => none
  | k + 1, x0, x1, x5 => if x5 < (x1.size : Int) then (if 0 ≤ x5 then (if (bt x1 x5) = x0 then (some true) else (legationref01_Is.l0 k x0 x1 (wrap64 (x5 + 1)))) else (none)) else (some false)
def legationref01_Is.f (k : Nat) (a0 : Int) (a1 : ByteArray) : Option (Bool) := legationref01_Is.l0 k a0 a1 0
theorem legationref01_Is.mono_l: ∀ k,(∀ y0 y1 y2,LeO (legationref01_Is.l0 k y0 y1 y2) (legationref01_Is.l0 (k+1) y0 y1 y2))
 |0=>fun _ _ _ r h=>by simp[legationref01_Is.l0]at h
 |k+1=>by
  have ih0:=legationref01_Is.mono_l k
  ·intro y0 y1 y2;unfold legationref01_Is.l0;with_reducible(repeat' first|exact ih0 _ _ _|exact LeO.refl _|refine LeO.ite ?_ ?_)
theorem legationref01_Is.mono: ∀ a0 a1 k,LeO (legationref01_Is.f k a0 a1) (legationref01_Is.f (k+1) a0 a1):=by
 intro a0 a1 k;have ih0:=legationref01_Is.mono_l k;unfold legationref01_Is.f;repeat' first
  |(with_reducible exact ih0 _ _ _)
theorem legationref01_Is.calls (k:Nat) (a0:Int) (a1:ByteArray) (r:Bool) (w:World) (h:legationref01_Is.f k a0 a1=some r):
 Calls Try.prog 66 #[.int .u8 a0,.string a1] w fun e w'=>e= .returned (.bool r)∧Drawn0 w w':=by
 have H:(legationref01_Is.l0 k a0 a1 0)=some r:=h;clear h;have H':=zA H;clear H;go_enter Try.func66,Try.ntmps66;go_wp2;go_loopg [5] k (fun kq v5 w'=> ∃ (x5_1:Int),v5= .int .i64 x5_1∧Aside0 (legationref01_Is.l0 kq a0 a1 x5_1=some r)∧Aside0 (kq≤k)∧Drawn0 w w');(case atStart=>exact⟨(0),(by rfl),H',⟨Nat.le_refl _⟩,by repeat(exact Drawn0.refl _)⟩);case round=>
  clear H';obtain⟨x5_1,rfl,HA,HK1,⟨m1,rfl⟩⟩:=hrel;cases gk with
  |zero=>exact absurd HA.out (by simp[legationref01_Is.l0])
  |succ k1=>
   have H:=HA.out;clear HA;simp only[legationref01_Is.l0]at H;obtain⟨c3b0,H⟩|⟨c3b0,H⟩:=zj H
   ·obtain⟨c4b0,H⟩|⟨_,H⟩:=zj H
    ·obtain⟨c6b0,H⟩|⟨c6b0,H⟩:=zb H
     ·obtain rfl:=Option.some.inj H;have p5:0≤(x5_1:Int):=zD;have q5:x5_1<(a1.size:Int):=zD;have hx5:=bt_at a1 x5_1;replace p5:=eq_true p5;replace q5:=eq_true q5;go_wp2;go_ret;exact⟨by rfl,by repeat(first|exact Drawn0.refl _|apply Drawn0.step)⟩
     ·have H':=zA H;clear H;have p5:0≤(x5_1:Int):=zD;have q5:x5_1<(a1.size:Int):=zD;have hx5:=bt_at a1 x5_1;replace p5:=eq_true p5;replace q5:=eq_true q5;go_wp2;go_roundg k1;(case measure=>have:=HK1.out;omega);case rel=>exact⟨(wrap64 (x5_1+1)),(by rfl),H',⟨by have:=HK1.out;omega⟩,by repeat(first|exact Drawn0.refl _|apply Drawn0.step)⟩
    ·cases H
   ·obtain rfl:=Option.some.inj H;go_wp2;go_ret;exact⟨by rfl,by repeat(first|exact Drawn0.refl _|apply Drawn0.step)⟩
end Go.Proofs.Ytcfoebkbahpnaaa.L
