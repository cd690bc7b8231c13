import Derived.Test.YtcfoebkbahpnaaaDCx0
import Derived.Test.YtcfoebkbahpnaaaDCx4
import Derived.Test.YtcfoebkbahpnaaaDCx5
namespace Go.Proofs.Ytcfoebkbahpnaaa.L
open Go.RowKit Go.Proofs.YtcfoebkbahpnaaaW.PrintWords Go.Proofs.YtcfoebkbahpnaaaW.PrintLast Go.Proofs.YtcfoebkbahpnaaaW.PrintMore
attribute [local go_sem] max2_int min2_int max_two min_two max_three min_three max_four min_four
set_option linter.unusedVariables false
set_option maxHeartbeats 8000000
set_option maxRecDepth 100000
set_option linter.unusedSimpArgs false
mutual
def term_Check.j0 : Nat → Bool → Bool → Int → ByteArray → ByteArray → ByteArray → Option (Int)
  | 0, _, _, _, _, _, _ => none
  | k + 1, x3, x4, x109000, x109001, x109002, x109003 => if x109000 = 0 then (if x4 = true then (if (x109001.toList = ([] : List UInt8)) then (some 0) else (some 2)) else (some 2)) else (if x109000 = 1 then (if x4 = true then ((term_isIri.f x109001).bind fun t109 => (if t109 = true then (some 0) else (some 2))) else (some 2)) else (if x109000 = 3 then (term_Check.j1 k x3 x4 x109000 (x109000 == 3) x109000 x109001 x109002 x109003) else (term_Check.j1 k x3 x4 x109000 (x109000 == 4) x109000 x109001 x109002 x109003)))
def term_Check.j1 : Nat → Bool → Bool → Int → Bool → Int → ByteArray → ByteArray → ByteArray → Option (Int)
  | 0, _, _, _, _, _, _, _, _ => none
  | k + 1, x3, x4, x14, x31, x109000, x109001, x109002, x109003 => if x31 = true then (if x4 = true then ((term_IsName.f k x109001).bind fun t110 => (if t110 = true then (some 0) else (some 2))) else (some 2)) else (if x14 = 2 then ((term_isText.f k x109001).bind fun t111 => (if t111 = true then (if x109002.toList = ([] : List UInt8) then (if x109003.toList = ([] : List UInt8) then (some 0) else ((term_isLang.f k x109003).bind fun t112 => (if t112 = true then (some 0) else (some 2)))) else ((term_isIri.f x109002).bind fun t113 => (if t113 = true then (if x109003.toList = ([] : List UInt8) then (some 0) else (some 2)) else (some 2)))) else (some 2))) else (if x3 = true then (some 0) else (some 2)))
end
def term_Check.f (k : Nat) (a0_0 : Int) (a0_1 : ByteArray) (a0_2 : ByteArray) (a0_3 : ByteArray) : Option (Int) := if a0_2.toList = ([] : List UInt8) then (term_Check.j0 k false (a0_3.toList == ([] : List UInt8)) a0_0 a0_1 a0_2 a0_3) else (term_Check.j0 k false false a0_0 a0_1 a0_2 a0_3)
theorem term_Check.calls (k:Nat) (a0_0:Int) (a0_1:ByteArray) (a0_2:ByteArray) (a0_3:ByteArray) (r:Int) (w:World) (h:term_Check.f k a0_0 a0_1 a0_2 a0_3=some r):
 Calls Try.prog 25 #[.agg #[.int .i64 a0_0,.string a0_1,.string a0_2,.string a0_3]] w fun e w'=>e= .returned (.int .i64 r)∧Below w.heap.size w w':=by
 have HB:=zA (Below.refl w.heap.size w);have H:(if a0_2.toList=([]:List UInt8)then(term_Check.j0 k false (a0_3.toList==([]:List UInt8)) a0_0 a0_1 a0_2 a0_3)else(term_Check.j0 k false false a0_0 a0_1 a0_2 a0_3))=some r:=h;clear h;have HC2:=zA H;clear H;go_enter Try.func25,Try.ntmps25;go_upto_region 2 with (((with_reducible refine gate_dst (N:=1) rfl ?_);refine zE #[.int .i64 a0_0,.string a0_1,.string a0_2,.string a0_3] 50 ?_;intro gb108 hg w3 hbox hb;have BK108:=zA hbox;have GW108:=zZ HB.out hg;replace HB:=zS HB.out hb;clear hb hbox hg))
 go_cut [4] (fun v4 wc=> ∃ (kq:Nat) (x4_1:Bool),v4= .bool x4_1∧Aside0 (term_Check.j0 kq false x4_1 a0_0 a0_1 a0_2 a0_3=some r)∧Aside0 (kq≤k)∧Aside0 (wc.heap[gb108]? =some (.cells #[.int .i64 a0_0,.string a0_1,.string a0_2,.string a0_3] 50 (0,0)))∧Aside0 (Below w.heap.size w wc));case first=>
  have H:=HC2.out;clear HC2;obtain⟨c4b0,H⟩|⟨c4b0,H⟩:=zb H
  ·have H':=zA H;clear H;have hcz5_2:=zc42 BK108.out;have hcz5_3:=zc43 BK108.out;go_wp2;go_meet;case rel=>exact⟨_,((a0_3.toList==([]:List UInt8))),(by(simp;done)),H',⟨by omega⟩,⟨by exact BK108.out⟩,⟨HB.out⟩⟩
  ·have H':=zA H;clear H;have hcz6_2:=zc42 BK108.out;go_wp2;go_meet;case rel=>exact⟨_,(false),(by rfl),H',⟨by omega⟩,⟨by exact BK108.out⟩,⟨HB.out⟩⟩
 case rest=>
  clear HC2;obtain⟨kq,x4_1,rfl,HA,HJ1,BK108,HB⟩:=hcut;cases kq with
  |zero=>exact absurd HA.out (by simp[term_Check.j0])
  |succ kj1=>
   have H:=HA.out;clear HA;simp only[term_Check.j0]at H;by_cases c7:a0_0=0
   ·rw[if_pos c7]at H;have c7b0:(a0_0==0)=true:=beq_iff_eq.mpr c7;clear c7;by_cases c8:x4_1=true
    ·subst c8;rw[if_pos rfl]at H;by_cases c9:(a0_1.toList=([]:List UInt8))
     ·rw[if_pos c9]at H;have c9b0:(a0_1.toList==([]:List UInt8))=true:=beq_iff_eq.mpr c9;clear c9;obtain rfl:=Option.some.inj H;have hcz10_0:=zc40 BK108.out;have hcz10_1:=zc41 BK108.out;go_wp2;go_ret;exact⟨by rfl,HB.out⟩
     ·rw[if_neg c9]at H;have c9b0:(a0_1.toList==([]:List UInt8))=false:=beq_eq_false_iff_ne.mpr c9;obtain rfl:=Option.some.inj H;have hcz11_0:=zc40 BK108.out;have hcz11_1:=zc41 BK108.out;go_wp2;go_ret;exact⟨by rfl,HB.out⟩
    ·replace c8:=Bool.eq_false_iff.mpr c8;subst c8;rw[if_neg (show ¬(false=true)by decide)]at H;obtain rfl:=Option.some.inj H;have hcz12_0:=zc40 BK108.out;go_wp2;go_ret;exact⟨by rfl,HB.out⟩
   ·rw[if_neg c7]at H;have c7b0:(a0_0==0)=false:=beq_eq_false_iff_ne.mpr c7;by_cases c13:a0_0=1
    ·rw[if_pos c13]at H;have c13b0:(a0_0==1)=true:=beq_iff_eq.mpr c13;clear c13;by_cases c14:x4_1=true
     ·subst c14;rw[if_pos rfl]at H;obtain⟨t109,A15,H⟩:=zk H;by_cases c16:t109=true
      ·subst c16;rw[if_pos rfl]at H;obtain rfl:=Option.some.inj H;have hcz17_0:=zc40 BK108.out;have hcz17_1:=zc41 BK108.out;go_wp2_with ((go_at_call 43;(with_reducible refine(term_isIri.calls a0_1 true _ A15.out).mono ?_);rintro e w18 ⟨rfl,hb⟩;replace BK108:=zB BK108.out hb;replace HB:=zS HB.out hb;(try clear hb)));go_ret;exact⟨by rfl,HB.out⟩
      ·replace c16:=Bool.eq_false_iff.mpr c16;subst c16;rw[if_neg (show ¬(false=true)by decide)]at H;obtain rfl:=Option.some.inj H;have hcz19_0:=zc40 BK108.out;have hcz19_1:=zc41 BK108.out;go_wp2_with ((go_at_call 43;(with_reducible refine(term_isIri.calls a0_1 false _ A15.out).mono ?_);rintro e w20 ⟨rfl,hb⟩;replace BK108:=zB BK108.out hb;replace HB:=zS HB.out hb;(try clear hb)));go_ret;exact⟨by rfl,HB.out⟩
     ·replace c14:=Bool.eq_false_iff.mpr c14;subst c14;rw[if_neg (show ¬(false=true)by decide)]at H;obtain rfl:=Option.some.inj H;have hcz21_0:=zc40 BK108.out;go_wp2;go_ret;exact⟨by rfl,HB.out⟩
    ·rw[if_neg c13]at H;have c13b0:(a0_0==1)=false:=beq_eq_false_iff_ne.mpr c13;have HC22:=zA H;clear H;have hcz23_0:=zc40 BK108.out;go_upto_if 31 with (fail)
     go_cut [31] (fun v31 wc=> ∃ (kq:Nat) (x31_21:Bool),v31= .bool x31_21∧Aside0 (term_Check.j1 kq false x4_1 a0_0 x31_21 a0_0 a0_1 a0_2 a0_3=some r)∧Aside0 (kq≤kj1)∧Aside0 (wc.heap[gb108]? =some (.cells #[.int .i64 a0_0,.string a0_1,.string a0_2,.string a0_3] 50 (0,0)))∧Aside0 (Below w.heap.size w wc));case first=>
      have H:=HC22.out;clear HC22;obtain⟨c24b0,H⟩|⟨c24b0,H⟩:=zb H
      ·(rw[c24b0]);have H':=zA H;clear H;go_wp2;go_meet;case rel=>exact⟨_,((a0_0==3)),(by(simp[*];done)),H',⟨by have:=HJ1.out;omega⟩,⟨by exact BK108.out⟩,⟨HB.out⟩⟩
      ·(rw[c24b0]);have H':=zA H;clear H;go_wp2;go_meet;case rel=>exact⟨_,((a0_0==4)),(by rfl),H',⟨by have:=HJ1.out;omega⟩,⟨by exact BK108.out⟩,⟨HB.out⟩⟩
     case rest=>
      clear HC22;(try clear c7);(try clear c7b0);(try clear c13);(try clear c13b0);(try clear hcz23_0);obtain⟨kq,x31_21,rfl,HA,HJ21,BK108,HB⟩:=hcut;cases kq with
      |zero=>exact absurd HA.out (by simp[term_Check.j1])
      |succ kj21=>
       have H:=HA.out;clear HA;simp only[term_Check.j1]at H;by_cases c25:x31_21=true
       ·subst c25;rw[if_pos rfl]at H;by_cases c26:x4_1=true
        ·subst c26;rw[if_pos rfl]at H;obtain⟨t110,A27,H⟩:=zk H;by_cases c28:t110=true
         ·subst c28;rw[if_pos rfl]at H;obtain rfl:=Option.some.inj H;have hcz29_1:=zc41 BK108.out;go_wp2_with ((go_at_call 44;(with_reducible refine(term_IsName.calls kj21 a0_1 true _ A27.out).mono ?_);rintro e w' ⟨rfl,⟨nd,rfl⟩⟩));go_ret;exact⟨by rfl,by repeat((with_reducible first|exact HB.out|apply pw_below_drewN))⟩
         ·replace c28:=Bool.eq_false_iff.mpr c28;subst c28;rw[if_neg (show ¬(false=true)by decide)]at H;obtain rfl:=Option.some.inj H;have hcz30_1:=zc41 BK108.out;go_wp2_with ((go_at_call 44;(with_reducible refine(term_IsName.calls kj21 a0_1 false _ A27.out).mono ?_);rintro e w' ⟨rfl,⟨nd,rfl⟩⟩));go_ret;exact⟨by rfl,by repeat((with_reducible first|exact HB.out|apply pw_below_drewN))⟩
        ·replace c26:=Bool.eq_false_iff.mpr c26;subst c26;rw[if_neg (show ¬(false=true)by decide)]at H;obtain rfl:=Option.some.inj H;go_wp2;go_ret;exact⟨by rfl,HB.out⟩
       ·replace c25:=Bool.eq_false_iff.mpr c25;subst c25;rw[if_neg (show ¬(false=true)by decide)]at H;obtain⟨c31b0,H⟩|⟨c31b0,H⟩:=zb H
        ·obtain⟨t111,A32,H⟩:=zk H;by_cases c33:t111=true
         ·subst c33;rw[if_pos rfl]at H;obtain⟨c34b0,H⟩|⟨c34b0,H⟩:=zb H
          ·obtain⟨c35b0,H⟩|⟨c35b0,H⟩:=zb H
           ·obtain rfl:=Option.some.inj H;have hcz36_1:=zc41 BK108.out;have hcz36_2:=zc42 BK108.out;have hcz36_3:=zc43 BK108.out;go_wp2_with (((with_reducible refine gate_callee (f:=45) rfl ?_);refine zY (some 44) Try.func45 (term_isText.calls _ _ _ _ A32.out) ?_;rintro e w' ⟨rfl,⟨nd,rfl⟩⟩;refine⟨_,rfl,?_⟩));go_ret;exact⟨by rfl,by repeat((with_reducible first|exact HB.out|apply pw_below_drewN))⟩
           ·obtain⟨t112,A37,H⟩:=zk H;by_cases c38:t112=true
            ·subst c38;rw[if_pos rfl]at H;obtain rfl:=Option.some.inj H;have hcz39_1:=zc41 BK108.out;have hcz39_2:=zc42 BK108.out;have hcz39_3:=zc43 BK108.out;go_wp2_with (first|((with_reducible refine gate_callee (f:=45) rfl ?_);refine zY (some 44) Try.func45 (term_isText.calls _ _ _ _ A32.out) ?_;rintro e w' ⟨rfl,⟨nd,rfl⟩⟩;refine⟨_,rfl,?_⟩)|(go_at_call 46;(with_reducible refine(term_isLang.calls kj21 a0_3 true _ A37.out).mono ?_);rintro e w' ⟨rfl,⟨nd,rfl⟩⟩));go_ret;exact⟨by rfl,by repeat((with_reducible first|exact HB.out|apply pw_below_drewN))⟩
            ·replace c38:=Bool.eq_false_iff.mpr c38;subst c38;rw[if_neg (show ¬(false=true)by decide)]at H;obtain rfl:=Option.some.inj H;have hcz40_1:=zc41 BK108.out;have hcz40_2:=zc42 BK108.out;have hcz40_3:=zc43 BK108.out;go_wp2_with (first|((with_reducible refine gate_callee (f:=45) rfl ?_);refine zY (some 44) Try.func45 (term_isText.calls _ _ _ _ A32.out) ?_;rintro e w' ⟨rfl,⟨nd,rfl⟩⟩;refine⟨_,rfl,?_⟩)|(go_at_call 46;(with_reducible refine(term_isLang.calls kj21 a0_3 false _ A37.out).mono ?_);rintro e w' ⟨rfl,⟨nd,rfl⟩⟩));go_ret;exact⟨by rfl,by repeat((with_reducible first|exact HB.out|apply pw_below_drewN))⟩
          ·obtain⟨t113,A41,H⟩:=zk H;by_cases c42:t113=true
           ·subst c42;rw[if_pos rfl]at H;obtain⟨c43b0,H⟩|⟨c43b0,H⟩:=zb H
            ·obtain rfl:=Option.some.inj H;have hcz44_1:=zc41 BK108.out;have hcz44_2:=zc42 BK108.out;go_wp2_with (first|((with_reducible refine gate_callee (f:=45) rfl ?_);refine zY (some 44) Try.func45 (term_isText.calls _ _ _ _ A32.out) ?_;rintro e w' ⟨rfl,⟨nd,rfl⟩⟩;refine⟨_,rfl,?_⟩)|(go_at_call 43;(with_reducible refine(term_isIri.calls a0_2 true _ A41.out).mono ?_);rintro e w45 ⟨rfl,hb⟩;replace BK108:=zA (blk_below (g:=gb108) (o:= .cells #[.int .i64 a0_0,.string a0_1,.string a0_2,.string a0_3] 50 (0,0)) (by(with_reducible repeat(refine blk_drewN ?_ _));exact BK108.out) hb);replace HB:=zA (below_step (by repeat((with_reducible first|exact HB.out|apply pw_below_drewN))) hb);(try clear hb);have hcz46_3:=zc43 BK108.out));go_ret;exact⟨by rfl,HB.out⟩
            ·obtain rfl:=Option.some.inj H;have hcz47_1:=zc41 BK108.out;have hcz47_2:=zc42 BK108.out;go_wp2_with (first|((with_reducible refine gate_callee (f:=45) rfl ?_);refine zY (some 44) Try.func45 (term_isText.calls _ _ _ _ A32.out) ?_;rintro e w' ⟨rfl,⟨nd,rfl⟩⟩;refine⟨_,rfl,?_⟩)|(go_at_call 43;(with_reducible refine(term_isIri.calls a0_2 true _ A41.out).mono ?_);rintro e w48 ⟨rfl,hb⟩;replace BK108:=zA (blk_below (g:=gb108) (o:= .cells #[.int .i64 a0_0,.string a0_1,.string a0_2,.string a0_3] 50 (0,0)) (by(with_reducible repeat(refine blk_drewN ?_ _));exact BK108.out) hb);replace HB:=zA (below_step (by repeat((with_reducible first|exact HB.out|apply pw_below_drewN))) hb);(try clear hb);have hcz49_3:=zc43 BK108.out));go_ret;exact⟨by rfl,HB.out⟩
           ·replace c42:=Bool.eq_false_iff.mpr c42;subst c42;rw[if_neg (show ¬(false=true)by decide)]at H;obtain rfl:=Option.some.inj H;have hcz50_1:=zc41 BK108.out;have hcz50_2:=zc42 BK108.out;go_wp2_with (first|((with_reducible refine gate_callee (f:=45) rfl ?_);refine zY (some 44) Try.func45 (term_isText.calls _ _ _ _ A32.out) ?_;rintro e w' ⟨rfl,⟨nd,rfl⟩⟩;refine⟨_,rfl,?_⟩)|(go_at_call 43;(with_reducible refine(term_isIri.calls a0_2 false _ A41.out).mono ?_);rintro e w51 ⟨rfl,hb⟩;replace BK108:=zA (blk_below (g:=gb108) (o:= .cells #[.int .i64 a0_0,.string a0_1,.string a0_2,.string a0_3] 50 (0,0)) (by(with_reducible repeat(refine blk_drewN ?_ _));exact BK108.out) hb);replace HB:=zA (below_step (by repeat((with_reducible first|exact HB.out|apply pw_below_drewN))) hb);(try clear hb)));go_ret;exact⟨by rfl,HB.out⟩
         ·replace c33:=Bool.eq_false_iff.mpr c33;subst c33;rw[if_neg (show ¬(false=true)by decide)]at H;obtain rfl:=Option.some.inj H;have hcz52_1:=zc41 BK108.out;go_wp2_with (((with_reducible refine gate_callee (f:=45) rfl ?_);refine zY (some 44) Try.func45 (term_isText.calls _ _ _ _ A32.out) ?_;rintro e w' ⟨rfl,⟨nd,rfl⟩⟩;refine⟨_,rfl,?_⟩));go_ret;exact⟨by rfl,by repeat((with_reducible first|exact HB.out|apply pw_below_drewN))⟩
        ·rw[if_neg (show ¬(false=true)by decide)]at H;obtain rfl:=Option.some.inj H;go_wp2;go_ret;exact⟨by rfl,HB.out⟩
def slices_Index_string_string.l0 : Nat → List ByteArray → ByteArray → Int → Int → Option (Int)
  | 0, _, _, _, _ => none
  | k + 1, x0, x1, x7, x8 => if x8 < x7 then (if 0 ≤ x8 then (if x8 < (x0.length : Int) then (if x1.toList = (rdOf ByteArray.empty x0 x8).toList then (some x8) else (slices_Index_string_string.l0 k x0 x1 x7 (wrap64 (x8 + 1)))) else (none)) else (none)) else (some (-1))
def slices_Index_string_string.f (k : Nat) (l0 : List ByteArray) (a1 : ByteArray) : Option (Int) := slices_Index_string_string.l0 k l0 a1 (l0.length : Int) 0
theorem slices_Index_string_string.calls (k:Nat) (A0:Option Addr) (c0:Nat) (l0:List ByteArray) (a1:ByteArray) (r:Int) (w:World) (hr0:Kd.C Kd.string w A0 l0.length l0) (hc0:l0.length≤c0) (h:slices_Index_string_string.f k l0 a1=some r):
 Calls Try.prog 40 #[.slice A0 l0.length c0,.string a1] w fun e w'=>e= .returned (.int .i64 r)∧Drawn0 w w':=by
 have HR0:=zA hr0;have HC0:=zA hc0;clear hr0 hc0;have H:(slices_Index_string_string.l0 k l0 a1 (l0.length:Int) 0)=some r:=h;clear h;have H':=zA H;clear H;go_enter Try.func40,Try.ntmps40;go_wp2;go_loopg [8] k (fun kq v8 w'=> ∃ (x8_1:Int),v8= .int .i64 x8_1∧Aside0 (slices_Index_string_string.l0 kq l0 a1 (l0.length:Int) x8_1=some r)∧Aside0 (kq≤k)∧Drawn0 w w');(case atStart=>exact⟨(0),(by rfl),H',⟨Nat.le_refl _⟩,by repeat(exact Drawn0.refl _)⟩);case round=>
  clear H';obtain⟨x8_1,rfl,HA,HK1,⟨m1,rfl⟩⟩:=hrel;cases gk with
  |zero=>exact absurd HA.out (by simp[slices_Index_string_string.l0])
  |succ k1=>
   have H:=HA.out;clear HA;simp only[slices_Index_string_string.l0]at H;obtain⟨c3b0,H⟩|⟨c3b0,H⟩:=zj H
   ·obtain⟨c4b0,H⟩|⟨_,H⟩:=zj H
    ·obtain⟨c5b0,H⟩|⟨_,H⟩:=zj H
     ·obtain⟨c6b0,H⟩|⟨c6b0,H⟩:=zb H
      ·obtain rfl:=Option.some.inj H;have p114:0≤(x8_1:Int):=zD;have q114:x8_1<(l0.length:Int):=zD;obtain⟨ad114,e114,hx114_0⟩:=Kd.at_string HR0.out x8_1 p114 q114;cases e114
       replace p114:=eq_true p114;replace q114:=eq_true q114;go_wp2;go_ret;exact⟨by rfl,by repeat(first|exact Drawn0.refl _|apply Drawn0.step)⟩
      ·have H':=zA H;clear H;have p114:0≤(x8_1:Int):=zD;have q114:x8_1<(l0.length:Int):=zD;obtain⟨ad114,e114,hx114_0⟩:=Kd.at_string HR0.out x8_1 p114 q114;cases e114
       replace p114:=eq_true p114;replace q114:=eq_true q114;go_wp2;go_roundg k1;(case measure=>have:=HK1.out;omega);case rel=>exact⟨(wrap64 (x8_1+1)),(by rfl),H',⟨by have:=HK1.out;omega⟩,by repeat(first|exact Drawn0.refl _|apply Drawn0.step)⟩
     ·cases H
    ·cases H
   ·obtain rfl:=Option.some.inj H;go_wp2;go_ret;exact⟨by rfl,by repeat(first|exact Drawn0.refl _|apply Drawn0.step)⟩
def slices_Contains_string_string.f (k : Nat) (l0 : List ByteArray) (a1 : ByteArray) : Option (Bool) := (slices_Index_string_string.f k l0 a1).bind fun t115 => (some (decide (t115 ≥ 0)))
theorem slices_Contains_string_string.calls (k:Nat) (A0:Option Addr) (c0:Nat) (l0:List ByteArray) (a1:ByteArray) (r:Bool) (w:World) (hr0:Kd.C Kd.string w A0 l0.length l0) (hc0:l0.length≤c0) (h:slices_Contains_string_string.f k l0 a1=some r):
 Calls Try.prog 26 #[.slice A0 l0.length c0,.string a1] w fun e w'=>e= .returned (.bool r)∧Drawn0 w w':=by
 have HR0:=zA hr0;have HC0:=zA hc0;clear hr0 hc0;have H:((slices_Index_string_string.f k l0 a1).bind fun t115=>(some (decide (t115≥0))))=some r:=h;clear h;obtain⟨t115,A3,H⟩:=zk H;obtain rfl:=Option.some.inj H;go_enter Try.func26,Try.ntmps26;go_wp2_with (((with_reducible refine gate_callee (f:=40) rfl ?_);refine zX (some 7) Try.func40 #[.slice A0 l0.length c0,.string a1] ?_;(with_reducible refine(slices_Index_string_string.calls k _ _ l0 a1 t115 _ ?side1 ?side2 A3.out).mono ?_);(case side1=>repeat(exact HR0.out));(case side2=>exact HC0.out);rintro e w' ⟨rfl,⟨nd,rfl⟩⟩;refine⟨_,rfl,?_⟩));go_ret;exact⟨by rfl,by repeat(first|exact Drawn0.refl _|apply Drawn0.step)⟩
end Go.Proofs.Ytcfoebkbahpnaaa.L
