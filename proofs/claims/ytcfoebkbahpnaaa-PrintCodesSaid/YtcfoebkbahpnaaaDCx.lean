import Derived.Test.YtcfoebkbahpnaaaDCx0
import Derived.Test.YtcfoebkbahpnaaaDCx16
import Derived.Test.YtcfoebkbahpnaaaDCx34
import Derived.Test.YtcfoebkbahpnaaaDCx39
import Derived.Test.YtcfoebkbahpnaaaDSq
import Derived.Test.YtcfoebkbahpnaaaDCx2
import Derived.Test.YtcfoebkbahpnaaaDCx3
import Derived.Test.YtcfoebkbahpnaaaDCx4
import Derived.Test.YtcfoebkbahpnaaaDCx5
import Derived.Test.YtcfoebkbahpnaaaDCx8
import Derived.Test.YtcfoebkbahpnaaaDCx7
import Derived.Test.YtcfoebkbahpnaaaDCx10
import Derived.Test.YtcfoebkbahpnaaaDCx11
import Derived.Test.YtcfoebkbahpnaaaDCx12
import Derived.Test.YtcfoebkbahpnaaaDCx13
import Derived.Test.YtcfoebkbahpnaaaDCx14
import Derived.Test.YtcfoebkbahpnaaaDCx15
import Derived.Test.YtcfoebkbahpnaaaDCx17
import Derived.Test.YtcfoebkbahpnaaaDCx18
import Derived.Test.YtcfoebkbahpnaaaDCx21
import Derived.Test.YtcfoebkbahpnaaaDCx22
import Derived.Test.YtcfoebkbahpnaaaDCx24
import Derived.Test.YtcfoebkbahpnaaaDCx25
import Derived.Test.YtcfoebkbahpnaaaDCx26
import Derived.Test.YtcfoebkbahpnaaaDCx27
import Derived.Test.YtcfoebkbahpnaaaDCx28
import Derived.Test.YtcfoebkbahpnaaaDCx29
import Derived.Test.YtcfoebkbahpnaaaDCx30
import Derived.Test.YtcfoebkbahpnaaaDCx31
import Derived.Test.YtcfoebkbahpnaaaDCx32
import Derived.Test.YtcfoebkbahpnaaaDCx33
import Derived.Test.YtcfoebkbahpnaaaDCx35
import Derived.Test.YtcfoebkbahpnaaaDCx36
import Derived.Test.YtcfoebkbahpnaaaDCx37
import Derived.Test.YtcfoebkbahpnaaaDCx38
namespace Go.Proofs.Ytcfoebkbahpnaaa.L
open Go.RowKit Go.Proofs.YtcfoebkbahpnaaaW.PrintWords Go.Proofs.YtcfoebkbahpnaaaW.PrintLast Go.Proofs.YtcfoebkbahpnaaaW.PrintMore
attribute [local go_sem] max2_int min2_int max_two min_two max_three min_three max_four min_four
set_option linter.unusedVariables false
set_option maxHeartbeats 8000000
set_option maxRecDepth 100000
set_option linter.unusedSimpArgs false
def legationref09_Code.f (k : Nat) (l0 : List (S45)) : Option (ByteArray) := (legationref09_At.f k l0 (wrap64 ((l0.length : Int) - 1))).bind fun t554 => (some t554)
theorem legationref09_Code.calls (k:Nat) (A0:Option Addr) (c0:Nat) (l0:List (S45)) (r:ByteArray) (w:World) (hr0:Kd.C k45 w A0 l0.length l0) (hc0:l0.length≤c0) (h:legationref09_Code.f k l0=some r):
 Calls Try.prog 18 #[.slice A0 l0.length c0] w fun e w'=>e= .returned (.string r)∧Below w.heap.size w w':=by
 have HR0:=zA hr0;have HC0:=zA hc0;clear hr0 hc0;have HB:=zA (Below.refl w.heap.size w);have H:((legationref09_At.f k l0 (wrap64 ((l0.length:Int) - 1))).bind fun t554=>(some t554))=some r:=h;clear h;obtain⟨t554,A2,H⟩:=zk H;obtain rfl:=Option.some.inj H;go_enter Try.func18,Try.ntmps18;go_wp2_with (((with_reducible refine gate_callee (f:=36) rfl ?_);refine zX (some 7) Try.func36 #[.slice A0 l0.length c0,.int .i64 (wrap64 ((l0.length:Int) - 1))] ?_;(with_reducible refine(legationref09_At.calls k _ _ l0 (wrap64 ((l0.length:Int) - 1)) t554 _ ?side1 ?side2 A2.out).mono ?_);(case side1=>repeat(exact HR0.out));(case side2=>exact HC0.out);rintro e w3 ⟨rfl,hb⟩;refine⟨_,rfl,?_⟩;replace HB:=zS HB.out hb;(try clear hb)));go_ret;exact⟨by rfl,HB.out⟩
def legationlaw09_PrintCodes.f (k : Nat) (l0 : List (S45)) : Option (Bool) := (legationlaw09_big.f l0).bind fun t555 => (if t555 = true then ((legationlaw09_awake.f k).bind fun t556 => (some t556)) else ((print_Code.f k l0).bind fun bt557 => ((legationref07_Check.f k l0).bind fun t559 => (if bt557.2 = t559 then (if t559 = 0 then ((legationref09_Code.f k l0).bind fun t560 => (if bt557.1.toList = t560.toList then ((legationlaw09_awake.f k).bind fun t561 => (some t561)) else (some false))) else (if bt557.1.toList = ([] : List UInt8) then ((legationlaw09_awake.f k).bind fun t562 => (some t562)) else (some false))) else (some false)))))
theorem legationlaw09_PrintCodes.calls (k:Nat) (A0:Option Addr) (c0:Nat) (l0:List (S45)) (r:Bool) (w:World) (hr0:Kd.C k45 w A0 l0.length l0) (hc0:l0.length≤c0) (h:legationlaw09_PrintCodes.f k l0=some r):
 Calls Try.prog 5 #[.slice A0 l0.length c0] w fun e w'=>e= .returned (.bool r)∧Below w.heap.size w w':=by
 have HR0:=zA hr0;have HC0:=zA hc0;clear hr0 hc0;have HB:=zA (Below.refl w.heap.size w);have H:((legationlaw09_big.f l0).bind fun t555=>(if t555=true then((legationlaw09_awake.f k).bind fun t556=>(some t556))else((print_Code.f k l0).bind fun bt557=>((legationref07_Check.f k l0).bind fun t559=>(if bt557.2=t559 then(if t559=0 then((legationref09_Code.f k l0).bind fun t560=>(if bt557.1.toList=t560.toList then((legationlaw09_awake.f k).bind fun t561=>(some t561))else(some false)))else(if bt557.1.toList=([]:List UInt8)then((legationlaw09_awake.f k).bind fun t562=>(some t562))else(some false)))else(some false))))))=some r:=h;clear h;obtain⟨t555,A2,H⟩:=zk H;by_cases c3:t555=true
 ·subst c3;rw[if_pos rfl]at H;obtain⟨t556,A4,H⟩:=zk H;obtain rfl:=Option.some.inj H;go_enter Try.func5,Try.ntmps5;go_wp2_with (first|((with_reducible refine gate_callee (f:=15) rfl ?_);refine zX (some 7) Try.func15 #[.slice A0 l0.length c0] ?_;(with_reducible refine(legationlaw09_big.calls _ _ l0 true _ ?side1 ?side2 A2.out).mono ?_);(case side1=>repeat(exact HR0.out));(case side2=>exact HC0.out);rintro e w' ⟨rfl,⟨nd,rfl⟩⟩;refine⟨_,rfl,?_⟩)|((with_reducible refine gate_callee (f:=16) rfl ?_);refine goesL_ (some 8) rfl rfl Try.func16 (by kernel_rfl) rfl #[] rfl (by(try simp only[List.map_toArray,List.map_cons,List.map_nil]);done) ?_;(with_reducible refine(legationlaw09_awake.calls k t556 _ A4.out).mono ?_);rintro e w5 ⟨rfl,hb⟩;refine⟨_,rfl,?_⟩;replace HB:=zA (below_step (by repeat((with_reducible first|exact HB.out|apply pw_below_drewN))) hb);(try clear hb)));go_ret;exact⟨by rfl,HB.out⟩
 ·replace c3:=Bool.eq_false_iff.mpr c3;subst c3;rw[if_neg (show ¬(false=true)by decide)]at H;replace H:=zO H;obtain⟨⟨t557,t558⟩,A60,H⟩:=H;replace H:((legationref07_Check.f k l0).bind fun t559=>(if t558=t559 then(if t559=0 then((legationref09_Code.f k l0).bind fun t560=>(if t557.toList=t560.toList then((legationlaw09_awake.f k).bind fun t561=>(some t561))else(some false)))else(if t557.toList=([]:List UInt8)then((legationlaw09_awake.f k).bind fun t562=>(some t562))else(some false)))else(some false)))=some r:=H;have A6:=zA A60;clear A60;obtain⟨t559,A7,H⟩:=zk H;obtain⟨c8b1,H⟩|⟨c8b1,H⟩:=zn H
  ·obtain⟨c9b1,H⟩|⟨c9b1,H⟩:=zn H
   ·obtain⟨t560,A10,H⟩:=zk H;obtain⟨c11b0,H⟩|⟨c11b0,H⟩:=zb H
    ·obtain⟨t561,A12,H⟩:=zk H;obtain rfl:=Option.some.inj H;go_enter Try.func5,Try.ntmps5;go_wp2_with (first|((with_reducible refine gate_callee (f:=15) rfl ?_);refine zX (some 7) Try.func15 #[.slice A0 l0.length c0] ?_;(with_reducible refine(legationlaw09_big.calls _ _ l0 false _ ?side1 ?side2 A2.out).mono ?_);(case side1=>repeat(exact HR0.out));(case side2=>exact HC0.out);rintro e w' ⟨rfl,⟨nd,rfl⟩⟩;refine⟨_,rfl,?_⟩)|((with_reducible refine gate_callee (f:=17) rfl ?_);refine zX (some 11) Try.func17 #[.slice A0 l0.length c0] ?_;(with_reducible refine(print_Code.calls k _ _ l0 t557 t558 _ ?side1 ?side2 A6.out).mono ?_);(case side1=>repeat(exact HR0.out));(case side2=>exact HC0.out);rintro e w13 ⟨rfl,hb⟩;refine⟨_,rfl,?_⟩;replace HB:=zA (below_step (by repeat((with_reducible first|exact HB.out|apply pw_below_drewN))) hb);(try clear hb))|((with_reducible refine gate_callee (f:=11) rfl ?_);refine zX (some 15) Try.func11 #[.slice A0 l0.length c0] ?_;(with_reducible refine(legationref07_Check.calls k _ _ l0 t559 _ ?side1 ?side2 A7.out).mono ?_);(case side1=>exact Kd.C_below HR0.out HB.out);(case side2=>exact HC0.out);rintro e w14 ⟨rfl,hb⟩;refine⟨_,rfl,?_⟩;replace HB:=zS HB.out hb;(try clear hb))|((with_reducible refine gate_callee (f:=18) rfl ?_);refine zX (some 28) Try.func18 #[.slice A0 l0.length c0] ?_;(with_reducible refine(legationref09_Code.calls k _ _ l0 t560 _ ?side1 ?side2 A10.out).mono ?_);(case side1=>exact Kd.C_below HR0.out HB.out);(case side2=>exact HC0.out);rintro e w15 ⟨rfl,hb⟩;refine⟨_,rfl,?_⟩;replace HB:=zS HB.out hb;(try clear hb))|(go_at_call 16;(with_reducible refine(legationlaw09_awake.calls k t561 _ A12.out).mono ?_);rintro e w16 ⟨rfl,hb⟩;replace HB:=zS HB.out hb;(try clear hb)));go_ret;exact⟨by rfl,HB.out⟩
    ·obtain rfl:=Option.some.inj H;go_enter Try.func5,Try.ntmps5;go_wp2_with (first|((with_reducible refine gate_callee (f:=15) rfl ?_);refine zX (some 7) Try.func15 #[.slice A0 l0.length c0] ?_;(with_reducible refine(legationlaw09_big.calls _ _ l0 false _ ?side1 ?side2 A2.out).mono ?_);(case side1=>repeat(exact HR0.out));(case side2=>exact HC0.out);rintro e w' ⟨rfl,⟨nd,rfl⟩⟩;refine⟨_,rfl,?_⟩)|((with_reducible refine gate_callee (f:=17) rfl ?_);refine zX (some 11) Try.func17 #[.slice A0 l0.length c0] ?_;(with_reducible refine(print_Code.calls k _ _ l0 t557 t558 _ ?side1 ?side2 A6.out).mono ?_);(case side1=>repeat(exact HR0.out));(case side2=>exact HC0.out);rintro e w17 ⟨rfl,hb⟩;refine⟨_,rfl,?_⟩;replace HB:=zA (below_step (by repeat((with_reducible first|exact HB.out|apply pw_below_drewN))) hb);(try clear hb))|((with_reducible refine gate_callee (f:=11) rfl ?_);refine zX (some 15) Try.func11 #[.slice A0 l0.length c0] ?_;(with_reducible refine(legationref07_Check.calls k _ _ l0 t559 _ ?side1 ?side2 A7.out).mono ?_);(case side1=>exact Kd.C_below HR0.out HB.out);(case side2=>exact HC0.out);rintro e w18 ⟨rfl,hb⟩;refine⟨_,rfl,?_⟩;replace HB:=zS HB.out hb;(try clear hb))|((with_reducible refine gate_callee (f:=18) rfl ?_);refine zX (some 28) Try.func18 #[.slice A0 l0.length c0] ?_;(with_reducible refine(legationref09_Code.calls k _ _ l0 t560 _ ?side1 ?side2 A10.out).mono ?_);(case side1=>exact Kd.C_below HR0.out HB.out);(case side2=>exact HC0.out);rintro e w19 ⟨rfl,hb⟩;refine⟨_,rfl,?_⟩;replace HB:=zS HB.out hb;(try clear hb)));go_ret;exact⟨by rfl,HB.out⟩
   ·obtain⟨c20b0,H⟩|⟨c20b0,H⟩:=zb H
    ·obtain⟨t562,A21,H⟩:=zk H;obtain rfl:=Option.some.inj H;go_enter Try.func5,Try.ntmps5;go_wp2_with (first|((with_reducible refine gate_callee (f:=15) rfl ?_);refine zX (some 7) Try.func15 #[.slice A0 l0.length c0] ?_;(with_reducible refine(legationlaw09_big.calls _ _ l0 false _ ?side1 ?side2 A2.out).mono ?_);(case side1=>repeat(exact HR0.out));(case side2=>exact HC0.out);rintro e w' ⟨rfl,⟨nd,rfl⟩⟩;refine⟨_,rfl,?_⟩)|((with_reducible refine gate_callee (f:=17) rfl ?_);refine zX (some 11) Try.func17 #[.slice A0 l0.length c0] ?_;(with_reducible refine(print_Code.calls k _ _ l0 t557 t558 _ ?side1 ?side2 A6.out).mono ?_);(case side1=>repeat(exact HR0.out));(case side2=>exact HC0.out);rintro e w22 ⟨rfl,hb⟩;refine⟨_,rfl,?_⟩;replace HB:=zA (below_step (by repeat((with_reducible first|exact HB.out|apply pw_below_drewN))) hb);(try clear hb))|((with_reducible refine gate_callee (f:=11) rfl ?_);refine zX (some 15) Try.func11 #[.slice A0 l0.length c0] ?_;(with_reducible refine(legationref07_Check.calls k _ _ l0 t559 _ ?side1 ?side2 A7.out).mono ?_);(case side1=>exact Kd.C_below HR0.out HB.out);(case side2=>exact HC0.out);rintro e w23 ⟨rfl,hb⟩;refine⟨_,rfl,?_⟩;replace HB:=zS HB.out hb;(try clear hb))|(go_at_call 16;(with_reducible refine(legationlaw09_awake.calls k t562 _ A21.out).mono ?_);rintro e w24 ⟨rfl,hb⟩;replace HB:=zS HB.out hb;(try clear hb)));go_ret;exact⟨by rfl,HB.out⟩
    ·obtain rfl:=Option.some.inj H;go_enter Try.func5,Try.ntmps5;go_wp2_with (first|((with_reducible refine gate_callee (f:=15) rfl ?_);refine zX (some 7) Try.func15 #[.slice A0 l0.length c0] ?_;(with_reducible refine(legationlaw09_big.calls _ _ l0 false _ ?side1 ?side2 A2.out).mono ?_);(case side1=>repeat(exact HR0.out));(case side2=>exact HC0.out);rintro e w' ⟨rfl,⟨nd,rfl⟩⟩;refine⟨_,rfl,?_⟩)|((with_reducible refine gate_callee (f:=17) rfl ?_);refine zX (some 11) Try.func17 #[.slice A0 l0.length c0] ?_;(with_reducible refine(print_Code.calls k _ _ l0 t557 t558 _ ?side1 ?side2 A6.out).mono ?_);(case side1=>repeat(exact HR0.out));(case side2=>exact HC0.out);rintro e w25 ⟨rfl,hb⟩;refine⟨_,rfl,?_⟩;replace HB:=zA (below_step (by repeat((with_reducible first|exact HB.out|apply pw_below_drewN))) hb);(try clear hb))|((with_reducible refine gate_callee (f:=11) rfl ?_);refine zX (some 15) Try.func11 #[.slice A0 l0.length c0] ?_;(with_reducible refine(legationref07_Check.calls k _ _ l0 t559 _ ?side1 ?side2 A7.out).mono ?_);(case side1=>exact Kd.C_below HR0.out HB.out);(case side2=>exact HC0.out);rintro e w26 ⟨rfl,hb⟩;refine⟨_,rfl,?_⟩;replace HB:=zS HB.out hb;(try clear hb)));go_ret;exact⟨by rfl,HB.out⟩
  ·obtain rfl:=Option.some.inj H;go_enter Try.func5,Try.ntmps5;go_wp2_with (first|((with_reducible refine gate_callee (f:=15) rfl ?_);refine zX (some 7) Try.func15 #[.slice A0 l0.length c0] ?_;(with_reducible refine(legationlaw09_big.calls _ _ l0 false _ ?side1 ?side2 A2.out).mono ?_);(case side1=>repeat(exact HR0.out));(case side2=>exact HC0.out);rintro e w' ⟨rfl,⟨nd,rfl⟩⟩;refine⟨_,rfl,?_⟩)|((with_reducible refine gate_callee (f:=17) rfl ?_);refine zX (some 11) Try.func17 #[.slice A0 l0.length c0] ?_;(with_reducible refine(print_Code.calls k _ _ l0 t557 t558 _ ?side1 ?side2 A6.out).mono ?_);(case side1=>repeat(exact HR0.out));(case side2=>exact HC0.out);rintro e w27 ⟨rfl,hb⟩;refine⟨_,rfl,?_⟩;replace HB:=zA (below_step (by repeat((with_reducible first|exact HB.out|apply pw_below_drewN))) hb);(try clear hb))|((with_reducible refine gate_callee (f:=11) rfl ?_);refine zX (some 15) Try.func11 #[.slice A0 l0.length c0] ?_;(with_reducible refine(legationref07_Check.calls k _ _ l0 t559 _ ?side1 ?side2 A7.out).mono ?_);(case side1=>exact Kd.C_below HR0.out HB.out);(case side2=>exact HC0.out);rintro e w28 ⟨rfl,hb⟩;refine⟨_,rfl,?_⟩;replace HB:=zS HB.out hb;(try clear hb)));go_ret;exact⟨by rfl,HB.out⟩
end Go.Proofs.Ytcfoebkbahpnaaa.L

/- Plain terms and their texts: what is right, what is written, what is read, and that what is written reads back. No program stands in it. -/
namespace Go.Proofs.Ytcfoebkbahpnaaa

def isLet (b : UInt8) : Bool := (decide (97 ≤ b.toNat) && decide (b.toNat ≤ 122)) || (decide (65 ≤ b.toNat) && decide (b.toNat ≤ 90))
def isDig (b : UInt8) : Bool := decide (48 ≤ b.toNat) && decide (b.toNat ≤ 57)
def nameB (b : UInt8) : Bool := isLet b || isDig b || b.toNat == 95
def iriC (b : UInt8) : Bool := decide (33 ≤ b.toNat) && decide (b.toNat ≤ 126) && !([60, 62, 34, 123, 125, 124, 94, 96, 92].contains b.toNat)
def textB (b : UInt8) : Bool := (decide (32 ≤ b.toNat) && decide (b.toNat ≤ 126)) || b.toNat == 10 || b.toNat == 9
def langB (b : UInt8) : Bool := decide (97 ≤ b.toNat) && decide (b.toNat ≤ 122)
def okName : List UInt8 → Bool
  | [] => false
  | c :: r => isLet c && r.all nameB && decide (r.length ≤ 31)
def okIri (l : List UInt8) : Bool := !l.isEmpty && decide (l.length ≤ 4096) && l.all iriC
def okText (l : List UInt8) : Bool := decide (l.length ≤ 4096) && l.all textB
def okLang (l : List UInt8) : Bool := !l.isEmpty && decide (l.length ≤ 8) && l.all langB
/-- a term: its kind, its text, its type, its language -/
structure Tm where
  k : Int
  x : List UInt8
  ty : List UInt8
  la : List UInt8
deriving DecidableEq
def okTm (t : Tm) : Bool :=
  if t.k = 2 then okText t.x && (t.ty.isEmpty || okIri t.ty) && (t.la.isEmpty || (t.ty.isEmpty && okLang t.la))
  else t.ty.isEmpty && t.la.isEmpty && (if t.k = 0 then t.x.isEmpty else if t.k = 1 then okIri t.x else if t.k = 3 ∨ t.k = 4 then okName t.x else false)

/-! ### writing -/
def escB (b : UInt8) : List UInt8 := if b.toNat = 34 then [92, 34] else if b.toNat = 92 then [92, 92] else if b.toNat = 10 then [92, 110] else if b.toNat = 9 then [92, 116] else [b]
def esc (l : List UInt8) : List UInt8 := l.flatMap escB
def tail2 (t : Tm) : List UInt8 := (if t.ty.isEmpty then [] else 94 :: 94 :: 60 :: (t.ty ++ [62])) ++ (if t.la.isEmpty then [] else 64 :: t.la)
def ttext (t : Tm) : List UInt8 :=
  if t.k = 1 then 60 :: (t.x ++ [62]) else if t.k = 3 then 95 :: 58 :: t.x else if t.k = 4 then 63 :: t.x
  else if t.k = 2 then 34 :: (esc t.x ++ 34 :: tail2 t) else []

/-! ### reading -/
def nameN : List UInt8 → Nat
  | [] => 0
  | c :: r => if isLet c then 1 + ((r.take 31).takeWhile nameB).length else 0
/-! ### what is written reads back -/
theorem byte_eq {b:UInt8} {n:Nat} (h:b.toNat=n) (_:n<256):b=UInt8.ofNat n:=by
 rw[← h];exact(UInt8.ofNat_toNat).symm
theorem okName_nameN {l:List UInt8} (h:okName l=true):nameN l=l.length∧0<l.length:=by
 unfold okName at h;split at h
 ·cases h
 rename_i c r;simp only[Bool.and_eq_true,decide_eq_true_eq]at h;rw[show nameN (c::r)=if isLet c then 1+((r.take 31).takeWhile nameB).length else 0 from rfl,if_pos h.1.1,List.take_of_length_le h.2];have:r.takeWhile nameB=r:=by
  have:=h.1.2;rw[List.all_eq_true]at this;rw[← List.append_nil r,List.takeWhile_append_of_pos (by simpa using this)];simp
 rw[this,List.length_cons];omega
theorem takeWhile_all (p:UInt8→Bool): ∀ l:List UInt8,(l.takeWhile p).all p=true
 | []=>rfl
 |b::l=>by
  by_cases h:p b=true
  ·rw[List.takeWhile_cons_of_pos h,List.all_cons,h,takeWhile_all p l];rfl
  rw[List.takeWhile_cons_of_neg h];rfl
theorem take_of_prefix {a l:List UInt8} (h:a<+:l):l.take a.length=a:=by
 obtain⟨t,rfl⟩:=h;simp
theorem nameN_ok {l:List UInt8} (h:0<nameN l):okName (l.take (nameN l))=true:=by
 unfold nameN at h ⊢;split
 ·rename_i l0;simp at h
 rename_i c r;by_cases hc:isLet c=true
 ·rw[if_pos hc,Nat.add_comm,List.take_succ_cons];have hp:(r.take 31).takeWhile nameB<+:r:=(List.takeWhile_prefix nameB).trans (List.take_prefix 31 r);rw[take_of_prefix hp,okName,hc,takeWhile_all];have h1:=(List.takeWhile_prefix nameB (l:=r.take 31)).length_le;rw[List.length_take]at h1;simp;omega
 simp only at h;rw[if_neg hc]at h;omega
theorem isEmpty_nil {l:List UInt8} (h:l.isEmpty=true):l= []:=List.isEmpty_iff.1 h
end Go.Proofs.Ytcfoebkbahpnaaa

namespace Go.Proofs.Ytcfoebkbahpnaaa.L
open Go.RowKit Go.Proofs.YtcfoebkbahpnaaaW.PrintWords Go.Proofs.YtcfoebkbahpnaaaW.PrintLast Go.Proofs.YtcfoebkbahpnaaaW.PrintMore
attribute [local go_sem] max2_int min2_int max_two min_two max_three min_three max_four min_four
set_option linter.unusedVariables false
set_option maxHeartbeats 8000000
set_option maxRecDepth 100000
set_option linter.unusedSimpArgs false
end Go.Proofs.Ytcfoebkbahpnaaa.L
