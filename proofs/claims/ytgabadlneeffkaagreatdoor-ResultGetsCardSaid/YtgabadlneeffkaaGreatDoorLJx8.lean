import Derived.Test.YtgabadlneeffkaaGreatDoorLJx0
import Derived.Test.YtgabadlneeffkaaGreatDoorLJx6
import Derived.Test.YtgabadlneeffkaaGreatDoorLJx7
namespace Go.Proofs.YtgabadlneeffkaaGreatDoor.G
open Go.RowKit Go.Proofs.YtgabadlneeffkaaGreatDoorW.PrintWords Go.Proofs.YtgabadlneeffkaaGreatDoorW.PrintLast Go.Proofs.YtgabadlneeffkaaGreatDoorW.PrintMore
attribute [local go_sem] max2_int min2_int max_two min_two max_three min_three max_four min_four
set_option linter.unusedVariables false
set_option maxHeartbeats 8000000
set_option maxRecDepth 100000
set_option linter.unusedSimpArgs false
def cellsT (xs : List ByteArray) : Option ByteArray := (strings_Join.f xs (⟨#[9]⟩ : ByteArray)).bind fun t => if t.size + 1 ≤ 9223372036854775807 then some (t ++ (⟨#[10]⟩ : ByteArray)) else none
set_option maxHeartbeats 2000000 in
theorem cells_22 (n:Nat) (ts:List ByteArray) (p:Addr) (r:ByteArray) (w:World) (hn:ts.length=n) (hl:n<8796093022208)
 (hc: ∀ (i:Nat) (t:ByteArray) (w':World),ts[i]? =some t→Below w.heap.size w w'→Calls Tryz.prog 22 #[.int .i64 (i:Int),.pointer (some p)] w' fun e w''=>e= .returned (.string t)∧Below w'.heap.size w' w'')
 (h:cellsT ts=some r):
 Calls Tryz.prog 21 #[.int .i64 (n:Int),.func (.func 22) #[] #[.pointer (some p)]] w fun e w'=>e= .returned (.string r)∧Below w.heap.size w w':=by
 have HN:=zA hn;have HL:=zA hl;have HC:=zA hc;have HT:=zA h;clear hn hl hc h;go_enter Tryz.func21,Tryz.ntmps21;go_wp2;go_loopw [5,8] (fun v5 v8 w'=> ∃ (i:Nat),v8= .int .i64 (i:Int)∧Aside0 (i≤n)∧Aside0 (Kd.R Kd.string 9 w' w.heap.size (fun _=>True) v5 (ts.take i))∧Aside0 (Below w.heap.size w w')) (fun _ v8 _=>n - (intOf v8).toNat);(case atStart=>exact⟨0,rfl,⟨Nat.zero_le _⟩,⟨by exact Kd.R_nil _ _ _ _ _⟩,⟨Below.refl _ _⟩⟩);case round=>
  obtain⟨i,rfl,HI,HO,HB⟩:=hrel;by_cases hi:i<n
  ·have c1:decide ((i:Int)<(n:Int))=true:=decide_eq_true (by omega);obtain⟨t,ht⟩: ∃ t,ts[i]? =some t:=⟨_,List.getElem?_eq_getElem (by rw[HN.out];exact hi)⟩;have HTI:=zA ht;have p1:i<8796093022208:=(by have:=HL.out;omega);go_wp2_with (first
    |(go_at_call 22;refine(HC.out i t _ HTI.out (by repeat(exact HB.out))).mono ?_;rintro e w8 ⟨rfl,hb⟩;have n0_:=zA (Kd.R_below (by exact HO.out) hb);have n1_:=zA (below_step (by repeat(exact HB.out)) hb);clear HO HB;have HO:=n0_;have HB:=n1_;clear n0_ n1_ hb)
    |((with_reducible refine gate_builtin (b:= .append) (xs:= #[.tmp 11,.tmp 15]) rfl ?_);at_builtin;refine Kd.R_append Kd.string (w0:=w) w.heap.size rfl (.tmp 11) (.tmp 15) 22 9 (.string ⟨#[]⟩) 16 rfl Tryz.underlying22 info9 rfl (by decide) (by omega) u5 (ts.take i) t [.string t] (fun _=>True) (fun _=>False) rfl rfl ?aP (fun _ hk=>hk.elim) ?aF ?aO ?aB ?aS ?aL ?_;(case aP=>exact rfl);(case aB=>exact(by repeat(exact HB.out)));(case aF=>exact(fun _ _=>trivial));(case aO=>exact(by exact HO.out));(case aS=>exact(below_size (by repeat(exact HB.out))));(case aL=>simp only[List.length_take];omega);intro v319 w9 ho hb hg hat;have n0_:=zA hb;have n1_:=zA ho;clear HB HO;have HB:=n0_;have HO:=n1_;clear n0_ n1_;clear ho hb hg hat))
   go_roundw;case rel=>
    refine⟨i+1,by simp,⟨by omega⟩,⟨?_⟩,HB⟩;have e:ts.take (i+1)=ts.take i++ [t]:=(by rw[List.take_add_one,HTI.out];rfl);rw[e];exact HO.out
   case measure=>simp[intOf];omega
  ·have c1:decide ((i:Int)<(n:Int))=false:=decide_eq_false (by omega);have e:ts.take i=ts:=List.take_of_length_le (by rw[HN.out];omega);have hO:=HO.out;rw[e]at hO;clear HO;obtain⟨A,c,rfl,hlc,hC⟩:=Kd.R_reads hO;have H:=HT.out;unfold cellsT at H;obtain⟨j,hj,H⟩:=Option.bind_eq_some_iff.1 H;have HJ:=zA hj;have HCC:=zA hC;have HLC:=zA hlc;by_cases hz:j.size+1≤9223372036854775807
   ·rw[if_pos hz]at H;obtain rfl:=Option.some.inj H;have z1:(9223372036854775807<j.size+1)=False:=eq_false (Nat.not_lt.2 hz);have z2:=zA hz;clear hO hC hlc H hj hz;go_wp2_with (go_at_call 40;refine(strings_Join.calls A c ts (⟨#[9]⟩:ByteArray) j _ HCC.out HLC.out HJ.out).mono ?_;rintro e w8 ⟨rfl,hb⟩;have n1_:=zA (below_step (by repeat(exact HB.out)) hb);clear HB;have HB:=n1_;clear n1_ hb);go_ret;exact⟨rfl,HB.out⟩
   ·rw[if_neg hz]at H;cases H
set_option maxHeartbeats 2000000 in
theorem cells_23 (n:Nat) (ts:List ByteArray) (p:Addr) (r:ByteArray) (w:World) (hn:ts.length=n) (hl:n<8796093022208)
 (hc: ∀ (i:Nat) (t:ByteArray) (w':World),ts[i]? =some t→Below w.heap.size w w'→Calls Tryz.prog 23 #[.int .i64 (i:Int),.pointer (some p)] w' fun e w''=>e= .returned (.string t)∧Below w'.heap.size w' w'')
 (h:cellsT ts=some r):
 Calls Tryz.prog 21 #[.int .i64 (n:Int),.func (.func 23) #[] #[.pointer (some p)]] w fun e w'=>e= .returned (.string r)∧Below w.heap.size w w':=by
 have HN:=zA hn;have HL:=zA hl;have HC:=zA hc;have HT:=zA h;clear hn hl hc h;go_enter Tryz.func21,Tryz.ntmps21;go_wp2;go_loopw [5,8] (fun v5 v8 w'=> ∃ (i:Nat),v8= .int .i64 (i:Int)∧Aside0 (i≤n)∧Aside0 (Kd.R Kd.string 9 w' w.heap.size (fun _=>True) v5 (ts.take i))∧Aside0 (Below w.heap.size w w')) (fun _ v8 _=>n - (intOf v8).toNat);(case atStart=>exact⟨0,rfl,⟨Nat.zero_le _⟩,⟨by exact Kd.R_nil _ _ _ _ _⟩,⟨Below.refl _ _⟩⟩);case round=>
  obtain⟨i,rfl,HI,HO,HB⟩:=hrel;by_cases hi:i<n
  ·have c1:decide ((i:Int)<(n:Int))=true:=decide_eq_true (by omega);obtain⟨t,ht⟩: ∃ t,ts[i]? =some t:=⟨_,List.getElem?_eq_getElem (by rw[HN.out];exact hi)⟩;have HTI:=zA ht;have p1:i<8796093022208:=(by have:=HL.out;omega);go_wp2_with (first
    |(go_at_call 23;refine(HC.out i t _ HTI.out (by repeat(exact HB.out))).mono ?_;rintro e w8 ⟨rfl,hb⟩;have n0_:=zA (Kd.R_below (by exact HO.out) hb);have n1_:=zA (below_step (by repeat(exact HB.out)) hb);clear HO HB;have HO:=n0_;have HB:=n1_;clear n0_ n1_ hb)
    |((with_reducible refine gate_builtin (b:= .append) (xs:= #[.tmp 11,.tmp 15]) rfl ?_);at_builtin;refine Kd.R_append Kd.string (w0:=w) w.heap.size rfl (.tmp 11) (.tmp 15) 22 9 (.string ⟨#[]⟩) 16 rfl Tryz.underlying22 info9 rfl (by decide) (by omega) u5 (ts.take i) t [.string t] (fun _=>True) (fun _=>False) rfl rfl ?aP (fun _ hk=>hk.elim) ?aF ?aO ?aB ?aS ?aL ?_;(case aP=>exact rfl);(case aB=>exact(by repeat(exact HB.out)));(case aF=>exact(fun _ _=>trivial));(case aO=>exact(by exact HO.out));(case aS=>exact(below_size (by repeat(exact HB.out))));(case aL=>simp only[List.length_take];omega);intro v319 w9 ho hb hg hat;have n0_:=zA hb;have n1_:=zA ho;clear HB HO;have HB:=n0_;have HO:=n1_;clear n0_ n1_;clear ho hb hg hat))
   go_roundw;case rel=>
    refine⟨i+1,by simp,⟨by omega⟩,⟨?_⟩,HB⟩;have e:ts.take (i+1)=ts.take i++ [t]:=(by rw[List.take_add_one,HTI.out];rfl);rw[e];exact HO.out
   case measure=>simp[intOf];omega
  ·have c1:decide ((i:Int)<(n:Int))=false:=decide_eq_false (by omega);have e:ts.take i=ts:=List.take_of_length_le (by rw[HN.out];omega);have hO:=HO.out;rw[e]at hO;clear HO;obtain⟨A,c,rfl,hlc,hC⟩:=Kd.R_reads hO;have H:=HT.out;unfold cellsT at H;obtain⟨j,hj,H⟩:=Option.bind_eq_some_iff.1 H;have HJ:=zA hj;have HCC:=zA hC;have HLC:=zA hlc;by_cases hz:j.size+1≤9223372036854775807
   ·rw[if_pos hz]at H;obtain rfl:=Option.some.inj H;have z1:(9223372036854775807<j.size+1)=False:=eq_false (Nat.not_lt.2 hz);have z2:=zA hz;clear hO hC hlc H hj hz;go_wp2_with (go_at_call 40;refine(strings_Join.calls A c ts (⟨#[9]⟩:ByteArray) j _ HCC.out HLC.out HJ.out).mono ?_;rintro e w8 ⟨rfl,hb⟩;have n1_:=zA (below_step (by repeat(exact HB.out)) hb);clear HB;have HB:=n1_;clear n1_ hb);go_ret;exact⟨rfl,HB.out⟩
   ·rw[if_neg hz]at H;cases H
theorem put1_calls (x:Int) (p5:0≤x) (l:List ByteArray) (A:Option Addr) (c b:Nat) (x0 x1 x3 x4 x5:Value) (t:ByteArray) (w:World) (q5:x<(l.length:Int)) (e:rdOf ByteArray.empty l x=t) (hC:Kd.C Kd.string w A l.length l)
 (hb:w.heap[b]? =some (.cells #[x0,x1,.slice A l.length c,x3,x4,x5] 28 (0,0))) (hz:1+t.size≤9223372036854775807):
 Calls Tryz.prog 22 #[.int .i64 x,.pointer (some ⟨b,0,none⟩)] w fun e w'=>e= .returned (.string ((⟨#[63]⟩:ByteArray)++t))∧Below w.heap.size w w':=by
 obtain⟨ad,rfl,hx⟩:=Kd.at_string hC x p5 q5;rw[e]at hx;have hc2:w.cell? ⟨b,2,none⟩=some (.slice (some ad) l.length c):=(blk_cell hb 2).trans rfl;have z1:(9223372036854775807<1+t.size)=False:=eq_false (Nat.not_lt.2 hz);have z2:(9223372036854775807<(⟨#[63]⟩:ByteArray).size+t.size)=False:=eq_false (Nat.not_lt.2 hz);replace p5:=eq_true p5;replace q5:=eq_true q5;clear hb hC e;go_enter Tryz.func22,Tryz.ntmps22;go_wp2;go_ret;exact⟨rfl,Below.refl _ _⟩
theorem put2_calls (k:Nat) (x:Int) (p5:0≤x) (l:List S43) (A:Option Addr) (c b:Nat) (t:ByteArray) (t2:Int) (w:World) (q5:x<(l.length:Int)) (hC:Kd.C k43 w A l.length l)
 (hb:w.heap[b]? =some (.cells #[.slice A l.length c] 40 (0,0)))
 (ht:term_Text.f k (rd_T43 l x).f0 (rd_T43 l x).f1 (rd_T43 l x).f2 (rd_T43 l x).f3=some (t,t2)):
 Calls Tryz.prog 23 #[.int .i64 x,.pointer (some ⟨b,0,none⟩)] w fun e w'=>e= .returned (.string t)∧Below w.heap.size w w':=by
 obtain⟨ad,rfl,hx0,hx1,hx2,hx3⟩:=at_T43 hC x p5 q5;have hc2:w.cell? ⟨b,0,none⟩=some (.slice (some ad) l.length c):=(blk_cell hb 0).trans rfl;have HT:=zA ht;replace p5:=eq_true p5;replace q5:=eq_true q5;clear hb hC ht;go_enter Tryz.func23,Tryz.ntmps23;go_wp2_with (go_at_call 24;refine(term_Text.calls k _ _ _ _ t t2 _ HT.out).mono ?_;rintro e w8 ⟨rfl,hb8⟩);go_ret;exact⟨rfl,hb8⟩
def itB (n : Int) : ByteArray := ⟨(Lib.itoa n).toArray⟩
def fbB (b : Bool) : ByteArray := ⟨(Lib.formatBool b).toArray⟩
def finP (out : ByteArray) : Option (ByteArray × Int) := if (out.size : Int) > 65536 then some (⟨#[]⟩, 3) else some (out, 0)
def rowTexts (k : Nat) : List S43 → Option (List ByteArray)
  | [] => some []
  | t :: r => (term_Text.f k t.f0 t.f1 t.f2 t.f3).bind fun x => (rowTexts k r).bind fun l => some (x.1 :: l)
def rowsP (k : Nat) : List (List S43) → ByteArray → Option (ByteArray × Int)
  | [], out => finP out
  | row :: rs, out => if row.length < 8796093022208 then (rowTexts k row).bind fun ts => (cellsT ts).bind fun c => if out.size + c.size ≤ 9223372036854775807 then (if ((out ++ c).size : Int) > 65536 then some (⟨#[]⟩, 3) else rowsP k rs (out ++ c)) else none else none
def put0 (a0 : Int) : ByteArray := itB a0 ++ (⟨#[10]⟩ : ByteArray)
def smallP (a0 a5 : Int) (a4 : Bool) : Prop := 0 ≤ a0 ∧ a0 ≤ 9223372036854775807 ∧ -9223372036854775808 ≤ a5 ∧ a5 ≤ 9223372036854775807 ∧ (itB a0).size ≤ 1000 ∧ (itB a5).size ≤ 1000 ∧ (fbB a4).size ≤ 1000
instance (a0 a5 : Int) (a4 : Bool) : Decidable (smallP a0 a5 a4) := by unfold smallP; infer_instance
def result_Put.f (k : Nat) (a0_0 a0_1 : Int) (l0_2 : List ByteArray) (l0_3 : List (List S43)) (a0_4 : Bool) (a0_5 : Int) : Option (ByteArray × Int) :=
  (result_Check.f k a0_0 a0_1 l0_2 l0_3 a0_4 a0_5).bind fun e => if e = 0 then
    (if smallP a0_0 a0_5 a0_4 then
      (if a0_1 = 2 then finP (put0 a0_0 ++ (fbB a0_4 ++ (⟨#[10]⟩ : ByteArray)))
       else if a0_1 = 3 then finP (put0 a0_0 ++ (((⟨#[101, 114, 114, 111, 114, 32]⟩ : ByteArray) ++ itB a0_5) ++ (⟨#[10]⟩ : ByteArray)))
       else if l0_2.length < 8796093022208 ∧ l0_3.length < 8796093022208 ∧ ∀ t ∈ l0_2, 1 + t.size ≤ 9223372036854775807 then
         (cellsT (l0_2.map fun t => (⟨#[63]⟩ : ByteArray) ++ t)).bind fun c => if 2000 + c.size ≤ 9223372036854775807 then rowsP k l0_3 (put0 a0_0 ++ ((⟨#[114, 111, 119, 115, 10]⟩ : ByteArray) ++ c)) else none
       else none)
     else none)
    else some (⟨#[]⟩, e)
theorem put_itoa (n:Int) (h0: -9223372036854775808≤n) (h1:n≤9223372036854775807) (w:World) (hG:Gl w):
 Calls Tryz.prog 19 #[.int .i64 n] w fun e w'=>e= .returned (.string (itB n))∧Below w.heap.size w w':=by
 refine(Tryz.strconv_Itoa n h0 h1 w hG.tab).mono ?_;rintro e w' ⟨rfl,k,os,rfl⟩;refine⟨rfl,?_⟩;refine(pw_below_drewN (Below.refl _ _) k).trans ⟨rfl,rfl,rfl,by simp[Sort.grow],fun i hi=>?_⟩;simp only[Sort.grow];rw[Array.getElem?_append_left (by simpa using hi)]
theorem put1_all {l:List ByteArray} {A:Option Addr} {c b:Nat} {x0 x1 x3 x4 x5:Value} {w:World} (hz: ∀ t ∈ l,1+t.size≤9223372036854775807) (hC:Kd.C Kd.string w A l.length l)
 (hb:w.heap[b]? =some (.cells #[x0,x1,.slice A l.length c,x3,x4,x5] 28 (0,0))) (i:Nat) (t:ByteArray) (w':World) (hi:(l.map fun t=>(⟨#[63]⟩:ByteArray)++t)[i]? =some t) (hw:Below w.heap.size w w'):
 Calls Tryz.prog 22 #[.int .i64 (i:Int),.pointer (some ⟨b,0,none⟩)] w' fun e w''=>e= .returned (.string t)∧Below w'.heap.size w' w'':=by
 rw[List.getElem?_map]at hi;obtain⟨u,hu,rfl⟩:=Option.map_eq_some_iff.1 hi;have hil:i<l.length:=(List.getElem?_eq_some_iff.1 hu).1;have e:rdOf ByteArray.empty l (i:Int)=u:=(by unfold rdOf;rw[Int.toNat_natCast,List.getD_eq_getElem?_getD,hu];rfl);exact put1_calls (i:Int) (by omega) l A c b x0 x1 x3 x4 x5 u w' (by omega) e (Kd.C_below hC hw) (blk_below hb hw) (hz u (List.mem_of_getElem? hu))
theorem rowTexts_len {k:Nat}: ∀ {l:List S43} {ts:List ByteArray},rowTexts k l=some ts→ts.length=l.length
 | [],ts,h=>by simp[rowTexts]at h;simp[h]
 |t::r,ts,h=>by
  rw[rowTexts]at h;obtain⟨x,hx,h⟩:=Option.bind_eq_some_iff.1 h;obtain⟨l,hl,h⟩:=Option.bind_eq_some_iff.1 h;obtain rfl:=Option.some.inj h;simp[rowTexts_len hl]
theorem rowTexts_at {k:Nat}: ∀ {l:List S43} {ts:List ByteArray},rowTexts k l=some ts→ ∀ (i:Nat) (t:ByteArray),ts[i]? =some t→ ∃ u t2,l[i]? =some u∧term_Text.f k u.f0 u.f1 u.f2 u.f3=some (t,t2)
 | [],ts,h,i,t,hi=>by simp[rowTexts]at h;simp[h]at hi
 |u::r,ts,h,i,t,hi=>by
  rw[rowTexts]at h;obtain⟨x,hx,h⟩:=Option.bind_eq_some_iff.1 h;obtain⟨l,hl,h⟩:=Option.bind_eq_some_iff.1 h;obtain rfl:=Option.some.inj h;cases i with
  |zero=>
   simp only[List.getElem?_cons_zero,Option.some.injEq]at hi;exact⟨u,x.2,rfl,by rw[hx,← hi]⟩
  |succ i=>
   simp only[List.getElem?_cons_succ]at hi ⊢;exact rowTexts_at hl i t hi
theorem put2_all {k:Nat} {l:List S43} {ts:List ByteArray} {A:Option Addr} {c b:Nat} {w:World} (h:rowTexts k l=some ts) (hC:Kd.C k43 w A l.length l)
 (hb:w.heap[b]? =some (.cells #[.slice A l.length c] 40 (0,0))) (i:Nat) (t:ByteArray) (w':World) (hi:ts[i]? =some t) (hw:Below w.heap.size w w'):
 Calls Tryz.prog 23 #[.int .i64 (i:Int),.pointer (some ⟨b,0,none⟩)] w' fun e w''=>e= .returned (.string t)∧Below w'.heap.size w' w'':=by
 obtain⟨u,t2,hu,ht⟩:=rowTexts_at h i t hi;have hil:i<l.length:=(List.getElem?_eq_some_iff.1 hu).1;have e:rd_T43 l (i:Int)=u:=(by unfold rd_T43;rw[Int.toNat_natCast,List.getD_eq_getElem?_getD,hu];rfl);exact put2_calls k (i:Int) (by omega) l A c b t t2 w' (by omega) (Kd.C_below hC hw) (blk_below hb hw) (by rw[e];exact ht)
theorem V_C {α:Type} {d:Kd α} {e b n c:Nat} {W:World} {ok:Nat→Prop} {A:Option Addr} {xs:List α} (h:Kd.V d e W b ok (.slice A n c) xs):d.C W A xs.length xs:=by
 obtain⟨A',c',he,hc,hF⟩:=h;cases he
 exact Foot.now hF
theorem put_fb (b:Bool) (w:World):Calls Tryz.prog 20 #[.bool b] w fun e w'=>e= .returned (.string (fbB b))∧w'=w:=Tryz.strconv_FormatBool b w
set_option maxRecDepth 1000000 in
theorem result_Put.calls (k : Nat) (a0_0 a0_1 : Int) (A0_2 : Option Addr) (c0_2 : Nat) (l0_2 : List ByteArray) (P0_3_ : Nat → Prop) (A0_3 : Option Addr) (c0_3 : Nat) (l0_3 : List (List S43)) (a0_4 : Bool) (a0_5 : Int) (r1 : ByteArray) (r2 : Int) (w : World)
    (hr0_2 : Kd.C Kd.string w A0_2 l0_2.length l0_2) (hc0_2 : l0_2.length ≤ c0_2) (hs0_3 : Kd.V (Kd.slice 43 k43) 40 w w.heap.size (fun k_ => P0_3_ k_) (.slice A0_3 l0_3.length c0_3) l0_3) (hG : Gl w)
    (h : result_Put.f k a0_0 a0_1 l0_2 l0_3 a0_4 a0_5 = some (r1, r2)) :
    Calls Tryz.prog 11 #[.agg #[.int .i64 a0_0, .int .i64 a0_1, .slice A0_2 l0_2.length c0_2, .slice A0_3 l0_3.length c0_3, .bool a0_4, .int .i64 a0_5]] w fun e w' => e = .returned (.tuple #[.string r1, .int .i64 r2]) ∧ Below w.heap.size w w' := by
  unfold result_Put.f at h
  obtain ⟨t, ht, h⟩ := Option.bind_eq_some_iff.1 h
  have HG := zA hG
  have HT := zA ht
  have HR := zA hr0_2
  have HC := zA hc0_2
  have HS := zA hs0_3
  have HCR := zA (V_C hs0_3)
  clear hG ht hr0_2 hc0_2 hs0_3
  go_enter Tryz.func11, Tryz.ntmps11
  go_wp2_with fail
  refine (result_Check.calls k a0_0 a0_1 A0_2 c0_2 l0_2 P0_3_ A0_3 c0_3 l0_3 a0_4 a0_5 t _ ?sr HC.out ?ss HT.out).mono ?_
  case sr => exact Kd.C_alloc HR.out _
  case ss => exact Kd.V_alloc HS.out _
  rintro e w1 ⟨rfl, hb1⟩
  have hb0 := zA ((below_alloc (Below.refl w.heap.size w) (.cells #[.int .i64 a0_0, .int .i64 a0_1, .slice A0_2 l0_2.length c0_2, .slice A0_3 l0_3.length c0_3, .bool a0_4, .int .i64 a0_5] 28)).trans (hb1.mono (by simp)))
  have hblk : w1.heap[w.heap.size]? = some (.cells #[.int .i64 a0_0, .int .i64 a0_1, .slice A0_2 l0_2.length c0_2, .slice A0_3 l0_3.length c0_3, .bool a0_4, .int .i64 a0_5] 28 (0, 0)) := by
    rw [hb1.block _ (by simp)]; exact heap_alloc_new w _
  have HBK := zA hblk
  clear hb1
  by_cases h0 : t = 0
  · subst h0
    rw [if_pos rfl] at h
    have hc0 : w1.cell? ⟨w.heap.size, 0, none⟩ = some (.int .i64 a0_0) := (blk_cell hblk 0).trans rfl
    by_cases hsm : smallP a0_0 a0_5 a0_4
    · rw [if_pos hsm] at h
      obtain ⟨s1, s2, s3, s4, s5, s6, s7⟩ := hsm
      have HH := zA h
      clear h hblk
      go_wp2_with fail
      refine (put_itoa a0_0 (by omega) s2 _ (Gl.below HG.out hb0.out)).mono ?_
      rintro e w2 ⟨rfl, hb2⟩
      have hb02 := zA (below_then hb0.out hb0.out.size hb2)
      have HBK2 := zA (blk_below HBK.out hb2)
      have hc1 : w2.cell? ⟨w.heap.size, 1, none⟩ = some (.int .i64 a0_1) := (blk_cell HBK2.out 1).trans rfl
      have hc3 : w2.cell? ⟨w.heap.size, 4, none⟩ = some (.bool a0_4) := (blk_cell HBK2.out 4).trans rfl
      have hc4 : w2.cell? ⟨w.heap.size, 5, none⟩ = some (.int .i64 a0_5) := (blk_cell HBK2.out 5).trans rfl
      have z1 : (9223372036854775807 < (itB a0_0).size + 1) = False := eq_false (by omega)
      clear hb2 hc0 HBK hb0
      by_cases k2 : a0_1 = 2
      · have k2b : (a0_1 == 2) = true := beq_iff_eq.mpr k2
        have h := HH.out
        rw [if_pos k2] at h
        have z2 : (9223372036854775807 < (fbB a0_4).size + 1) = False := eq_false (by omega)
        have z3 : (9223372036854775807 < (itB a0_0).size + 1 + ((fbB a0_4).size + 1)) = False := eq_false (by omega)
        have HF := zA h
        clear HH k2 h
        go_wp2_with (go_at_call 20; refine (put_fb a0_4 _).mono ?_; rintro e w3 ⟨rfl, rfl⟩)
        all_goals
          have hF := HF.out
          have hs : (put0 a0_0 ++ (fbB a0_4 ++ (⟨#[10]⟩ : ByteArray))).size = (itB a0_0).size + 1 + ((fbB a0_4).size + 1) := by simp only [put0, ByteArray.size_append]; rfl
          unfold finP at hF
          rw [hs] at hF
          by_cases hz : (((itB a0_0).size + 1 + ((fbB a0_4).size + 1) : Nat) : Int) > 65536
          · rw [if_pos hz] at hF
            simp only [Option.some.injEq, Prod.mk.injEq] at hF
            obtain ⟨rfl, rfl⟩ := hF
            first
            | (exfalso; omega)
          rw [if_neg hz] at hF
          simp only [Option.some.injEq, Prod.mk.injEq] at hF
          obtain ⟨rfl, rfl⟩ := hF
          first
          | (go_ret2; exact ⟨rfl, hb02.out⟩)
      have k2b : (a0_1 == 2) = false := beq_eq_false_iff_ne.mpr k2
      have h := HH.out
      rw [if_neg k2] at h
      clear HH
      by_cases k3 : a0_1 = 3
      · have k3b : (a0_1 == 3) = true := beq_iff_eq.mpr k3
        rw [if_pos k3] at h
        have z2 : (9223372036854775807 < 6 + (itB a0_5).size) = False := eq_false (by omega)
        have z3 : (9223372036854775807 < 6 + (itB a0_5).size + 1) = False := eq_false (by omega)
        have z4 : (9223372036854775807 < (itB a0_0).size + 1 + (6 + (itB a0_5).size + 1)) = False := eq_false (by omega)
        have HF := zA h
        clear k2 k3 h
        go_wp2_with (go_at_call 19; refine (put_itoa a0_5 s3 s4 _ (Gl.below HG.out hb02.out)).mono ?_; rintro e w3 ⟨rfl, hb3⟩; have hb03 := zA (below_then hb02.out hb02.out.size hb3); clear hb3)
        all_goals
          have hF := HF.out
          have hs : (put0 a0_0 ++ (((⟨#[101, 114, 114, 111, 114, 32]⟩ : ByteArray) ++ itB a0_5) ++ (⟨#[10]⟩ : ByteArray))).size = (itB a0_0).size + 1 + (6 + (itB a0_5).size + 1) := by simp only [put0, ByteArray.size_append]; rfl
          unfold finP at hF
          rw [hs] at hF
          by_cases hz : (((itB a0_0).size + 1 + (6 + (itB a0_5).size + 1) : Nat) : Int) > 65536
          · rw [if_pos hz] at hF
            simp only [Option.some.injEq, Prod.mk.injEq] at hF
            obtain ⟨rfl, rfl⟩ := hF
            first
            | (exfalso; omega)
          rw [if_neg hz] at hF
          simp only [Option.some.injEq, Prod.mk.injEq] at hF
          obtain ⟨rfl, rfl⟩ := hF
          first
          | (go_ret2; exact ⟨rfl, hb03.out⟩)
      have k3b : (a0_1 == 3) = false := beq_eq_false_iff_ne.mpr k3
      rw [if_neg k3] at h
      clear k2 k3
      by_cases hg : l0_2.length < 8796093022208 ∧ l0_3.length < 8796093022208 ∧ ∀ t ∈ l0_2, 1 + t.size ≤ 9223372036854775807
      · rw [if_pos hg] at h
        obtain ⟨c, hcT, h⟩ := Option.bind_eq_some_iff.1 h
        by_cases hz : 2000 + c.size ≤ 9223372036854775807
        · rw [if_pos hz] at h
          have HH := zA h
          have HCT := zA hcT
          have HGG := zA hg
          have hcv : w2.cell? ⟨w.heap.size, 2, none⟩ = some (.slice A0_2 l0_2.length c0_2) := (blk_cell HBK2.out 2).trans rfl
          have z2 : (9223372036854775807 < 5 + c.size) = False := eq_false (by omega)
          have z3 : (9223372036854775807 < (itB a0_0).size + 1 + (5 + c.size)) = False := eq_false (by omega)
          have HR2 := zA (Kd.C_below HR.out hb02.out)
          clear h hcT hg
          go_wp2_with (go_at_call 21; refine (cells_22 l0_2.length (l0_2.map fun t => (⟨#[63]⟩ : ByteArray) ++ t) ⟨w.heap.size, 0, none⟩ c w2 (by simp) HGG.out.1 (put1_all HGG.out.2.2 HR2.out HBK2.out) HCT.out).mono ?_; rintro e w3 ⟨rfl, hb3⟩; have hb03 := zA (below_then hb02.out hb02.out.size hb3); have HBK3 := zA (blk_below HBK2.out hb3); have hcr : w3.cell? ⟨w.heap.size, 3, none⟩ = some (.slice A0_3 l0_3.length c0_3) := (blk_cell HBK3.out 3).trans rfl; clear hb3)
          go_loopw [5, 32] (fun v5 v32 w' => ∃ (i : Nat) (out : ByteArray), v5 = .string out ∧ v32 = .int .i64 (i : Int) ∧ Aside0 (i ≤ l0_3.length) ∧ Aside0 (rowsP k (l0_3.drop i) out = some (r1, r2)) ∧ Aside0 (Below w.heap.size w w')) (fun _ v32 _ => l0_3.length - (intOf v32).toNat)
          case atStart => exact ⟨0, _, rfl, rfl, ⟨Nat.zero_le _⟩, ⟨HH.out⟩, ⟨hb03.out⟩⟩
          case round =>
            obtain ⟨i, out, rfl, rfl, HI, HRW, HB⟩ := hrel
            by_cases hi : i < l0_3.length
            · have c1 : decide ((i : Int) < (l0_3.length : Int)) = true := decide_eq_true (by omega)
              have HIL := zA hi
              have hd : l0_3.drop i = rd_L3 l0_3 (i : Int) :: l0_3.drop (i + 1) := by
                rw [List.drop_eq_getElem_cons hi]
                unfold rd_L3
                rw [Int.toNat_natCast, List.getD_eq_getElem?_getD, List.getElem?_eq_getElem hi]
                rfl
              have hr := HRW.out
              rw [hd, rowsP] at hr
              clear HRW hd
              by_cases hl : (rd_L3 l0_3 (i : Int)).length < 8796093022208
              · rw [if_pos hl] at hr
                obtain ⟨ts, hts, hr⟩ := Option.bind_eq_some_iff.1 hr
                obtain ⟨c', hcT, hr⟩ := Option.bind_eq_some_iff.1 hr
                by_cases ho : out.size + c'.size ≤ 9223372036854775807
                · rw [if_pos ho] at hr
                  obtain ⟨ad, A', cc, e', hx, hlc, hC⟩ := at_L3 HCR.out (i : Int) (by omega) (by omega)
                  cases e'
                  have hx2 := (HB.out.cell (World.block_lt_of_cell? w _ hx)).trans hx
                  simp only [Int.toNat_natCast] at hx hx2
                  have p5 : ((0 : Int) ≤ (i : Int)) = True := eq_true (by omega)
                  have q5 : ((i : Int) < (l0_3.length : Int)) = True := eq_true (by omega)
                  have z4 : (9223372036854775807 < out.size + c'.size) = False := eq_false (Nat.not_lt.2 ho)
                  have p1 : i < 8796093022208 := Nat.lt_trans hi HGG.out.2.1
                  have HL := zA hl
                  have HTS := zA hts
                  have HCT2 := zA hcT
                  have HRR := zA hr
                  have HCC := zA hC
                  generalize rd_L3 l0_3 (i : Int) = row at *
                  clear hl hts hcT hr hC hx ho hi
                  go_wp2_with (go_at_call 21; refine (cells_23 row.length ts ⟨wr.heap.size, 0, none⟩ c' _ (rowTexts_len HTS.out) HL.out (put2_all HTS.out (Kd.C_below HCC.out (below_alloc HB.out _)) (heap_alloc_new _ _)) HCT2.out).mono ?_; rintro e w4 ⟨rfl, hb4⟩; have hb04 := zA (below_then (below_alloc HB.out (.cells #[.slice A' row.length cc] 40)) (Nat.le_trans HB.out.size (by simp)) hb4); clear hb4)
                  all_goals
                    have hF := HRR.out
                    by_cases hz2 : ((out.size + c'.size : Nat) : Int) > 65536
                    · rw [if_pos (by rw [ByteArray.size_append]; exact hz2)] at hF
                      simp only [Option.some.injEq, Prod.mk.injEq] at hF
                      obtain ⟨rfl, rfl⟩ := hF
                      first
                      | (exfalso; omega)
                      | (go_ret2; exact ⟨rfl, hb04.out⟩)
                    rw [if_neg (by rw [ByteArray.size_append]; exact hz2)] at hF
                    first
                    | (exfalso; omega)
                    | (go_roundw
                       case rel => exact ⟨i + 1, _, rfl, by simp, ⟨by have := HIL.out; omega⟩, ⟨hF⟩, hb04⟩
                       case measure => have := HIL.out; simp [intOf]; omega)
                rw [if_neg ho] at hr
                cases hr
              rw [if_neg hl] at hr
              cases hr
            have c1 : decide ((i : Int) < (l0_3.length : Int)) = false := decide_eq_false (by omega)
            have hr := HRW.out
            rw [List.drop_eq_nil_of_le (by omega), rowsP] at hr
            have HF := zA hr
            clear hr HRW
            go_wp2
            all_goals
              have hF := HF.out
              unfold finP at hF
              by_cases hz2 : (out.size : Int) > 65536
              · rw [if_pos hz2] at hF
                simp only [Option.some.injEq, Prod.mk.injEq] at hF
                obtain ⟨rfl, rfl⟩ := hF
                first
                | (exfalso; omega)
                | (go_ret2; exact ⟨rfl, HB.out⟩)
              rw [if_neg hz2] at hF
              simp only [Option.some.injEq, Prod.mk.injEq] at hF
              obtain ⟨rfl, rfl⟩ := hF
              first
              | (exfalso; omega)
              | (go_ret2; exact ⟨rfl, HB.out⟩)
        rw [if_neg hz] at h
        cases h
      rw [if_neg hg] at h
      cases h
    rw [if_neg hsm] at h
    cases h
  rw [if_neg h0] at h
  simp only [Option.some.injEq, Prod.mk.injEq] at h
  obtain ⟨rfl, rfl⟩ := h
  have hd : ((t : Int) != 0) = true := bne_iff_ne.mpr h0
  clear h0 hblk
  go_wp2
  go_ret2
  exact ⟨rfl, hb0.out⟩
def strings_Split.f (a0 a1 : ByteArray) : Option (List ByteArray) :=
  if a0.size < 4294967281 ∧ 1 ≤ a1.size then some (Lib.splitB a1 0 (Lib.countB a0 a1) a0) else none
theorem strings_Split.calls (a0 a1:ByteArray) (r:List ByteArray) (w:World) (hG:Gl w) (h:strings_Split.f a0 a1=some r):
 Calls Tryz.prog 27 #[.string a0,.string a1] w fun e w'=> ∃ v0_:Value,e= .returned (v0_)∧Kd.R Kd.string 9 w' w.heap.size (fun _=>True) v0_ r∧Below w.heap.size w w':=by
 unfold strings_Split.f at h;by_cases hs:a0.size<4294967281∧1≤a1.size
 ·rw[if_pos hs]at h;simp only[Option.some.injEq]at h;obtain⟨m,hm⟩:=hG.maxLen;have hl:=Lib.splitB_all a1 hs.2 0 _ a0 rfl;have hc:=Lib.countB_le a1 hs.2 a0.size a0 (Nat.le_refl _);refine(Tryz.strings_Split a0 a1 m w hs.1 hm hs.2).mono ?_;rintro e w' ⟨rfl,rfl⟩;rw[h]at hl ⊢;refine⟨_,rfl,?_,(Below.refl _ _).alloc (Nat.le_refl _) _⟩;rw[← hl];have h2:=World.ownsRow_lit (base:=w.heap.size) (e:=9) (size:=1) w (r.map Value.string).toArray r.length (Nat.le_refl _) (by unfold maxLen;omega) (by simp);exact Kd.R_of_own (enc:=Value.string) (h1:=fun _=>rfl) (by simpa [encs]using h2) (fun _ _=>trivial)
 ·rw[if_neg hs]at h;cases h
def strings_HasPrefix.f (a0 a1 : ByteArray) : Option Bool := some (Lib.hasPrefix a0.data.toList a1.data.toList)
theorem strings_HasPrefix.calls (a0 a1:ByteArray) (r:Bool) (w:World) (h:strings_HasPrefix.f a0 a1=some r):
 Calls Tryz.prog 30 #[.string a0,.string a1] w fun e w'=>e= .returned (.bool r)∧Drawn0 w w':=by
 (obtain rfl:Lib.hasPrefix a0.data.toList a1.data.toList=r:=by simpa [strings_HasPrefix.f]using h);exact(Tryz.strings_HasPrefix a0 a1 w).mono fun e w' ⟨he,hw⟩=>⟨he,by subst hw;exact Drawn0.refl _⟩
def result_split.f (a0 : ByteArray) (a1 : Int) : Option (List ByteArray) := if a1 = 0 then (if a0.toList = ([] : List UInt8) then (some ([] : List ByteArray)) else ((strings_Split.f a0 (⟨#[9]⟩ : ByteArray)).bind fun t163 => (some t163))) else ((strings_Split.f a0 (⟨#[9]⟩ : ByteArray)).bind fun t166 => (some t166))
theorem result_split.calls (a0:ByteArray) (a1:Int) (r:List ByteArray) (w:World) (hG:Gl w) (h:result_split.f a0 a1=some r):
 Calls Tryz.prog 51 #[.string a0,.int .i64 a1] w fun e w'=> ∃ v0_:Value,e= .returned (v0_)∧Kd.R Kd.string 9 w' w.heap.size (fun _=>True) v0_ r∧Below w.heap.size w w':=by
 have HGL:=zA hG;clear hG;have HB:=zA (Below.refl w.heap.size w);have H:(if a1=0 then(if a0.toList=([]:List UInt8)then(some ([]:List ByteArray))else((strings_Split.f a0 (⟨#[9]⟩:ByteArray)).bind fun t163=>(some t163)))else((strings_Split.f a0 (⟨#[9]⟩:ByteArray)).bind fun t166=>(some t166)))=some r:=h;clear h;by_cases c3:a1=0
 ·rw[if_pos c3]at H;have c3b0:(a1==0)=true:=beq_iff_eq.mpr c3;clear c3;by_cases c4:a0.toList=([]:List UInt8)
  ·rw[if_pos c4]at H;have c4b0:(a0.toList==([]:List UInt8))=true:=beq_iff_eq.mpr c4;clear c4;obtain rfl:=Option.some.inj H;go_enter Tryz.func51,Tryz.ntmps51;go_wp2;go_ret;exact⟨_,by rfl,by exact Kd.R_nil _ _ _ _ _,HB.out⟩
  ·rw[if_neg c4]at H;have c4b0:(a0.toList==([]:List UInt8))=false:=beq_eq_false_iff_ne.mpr c4;replace H:=zO H;obtain⟨t163,A50,H⟩:=H;have A5:=zA A50;clear A50;obtain rfl:=Option.some.inj H;go_enter Tryz.func51,Tryz.ntmps51;go_wp2_with (((with_reducible refine gate_callee (f:=27) rfl ?_);refine zX (some 12) Tryz.func27 #[.string a0,.string ⟨#[9]⟩] ?_;(with_reducible refine(strings_Split.calls a0 (⟨#[9]⟩:ByteArray) t163 _ (Gl.below HGL.out HB.out) A5.out).mono ?_);rintro e w6 ⟨v164,rfl,ho0,hb⟩;refine⟨_,rfl,?_⟩;have HO165:=zA (Kd.R_lower ho0 (below_size HB.out));replace HB:=zS HB.out hb;(try clear hb);(try clear ho0)));go_ret;exact⟨_,by rfl,by exact HO165.out,HB.out⟩
 ·rw[if_neg c3]at H;have c3b0:(a1==0)=false:=beq_eq_false_iff_ne.mpr c3;replace H:=zO H;obtain⟨t166,A70,H⟩:=H;have A7:=zA A70;clear A70;obtain rfl:=Option.some.inj H;go_enter Tryz.func51,Tryz.ntmps51;go_wp2_with (((with_reducible refine gate_callee (f:=27) rfl ?_);refine zX (some 12) Tryz.func27 #[.string a0,.string ⟨#[9]⟩] ?_;(with_reducible refine(strings_Split.calls a0 (⟨#[9]⟩:ByteArray) t166 _ (Gl.below HGL.out HB.out) A7.out).mono ?_);rintro e w8 ⟨v167,rfl,ho0,hb⟩;refine⟨_,rfl,?_⟩;have HO168:=zA (Kd.R_lower ho0 (below_size HB.out));replace HB:=zS HB.out hb;(try clear hb);(try clear ho0)));go_ret;exact⟨_,by rfl,by exact HO168.out,HB.out⟩
def strings_IndexByte.f (a0 : ByteArray) (a1 : Int) : Option (Int) := some (Lib.indexByte a0.data.toList a1.toNat.toUInt8)
theorem strings_IndexByte.calls (a0:ByteArray) (a1:Int) (r:Int) (w:World) (h:strings_IndexByte.f a0 a1=some r):
 Calls Tryz.prog 101 #[.string a0,.int .u8 a1] w fun e w'=>e= .returned (.int .i64 r)∧Drawn0 w w':=by
 (obtain rfl:Lib.indexByte a0.data.toList a1.toNat.toUInt8=r:=by simpa [strings_IndexByte.f]using h);exact(Tryz.strings_IndexByte a0 a1 w).mono fun e w' ⟨he,hw⟩=>⟨he,by subst hw;exact Drawn0.refl _⟩
structure TP where
  f : ByteArray → Option (Int × ByteArray × ByteArray × ByteArray × Int)
  calls : ∀ (a0 : ByteArray) (r1 : Int) (r2 r3 r4 : ByteArray) (r5 : Int) (w : World), f a0 = some (r1, r2, r3, r4, r5) →
    Calls Tryz.prog 77 #[.string a0] w fun e w' => e = .returned (.tuple #[.agg #[.int .i64 r1, .string r2, .string r3, .string r4], .int .i64 r5]) ∧ Below w.heap.size w w'
def term_PrefixH.f [h : Inhabited TP] (a0 : ByteArray) : Option (Int × ByteArray × ByteArray × ByteArray × Int) := h.default.f a0
theorem term_PrefixH.calls [h:Inhabited TP] (a0:ByteArray) (r1:Int) (r2 r3 r4:ByteArray) (r5:Int) (w:World) (hf:term_PrefixH.f a0=some (r1,r2,r3,r4,r5)):
 Calls Tryz.prog 77 #[.string a0] w fun e w'=>e= .returned (.tuple #[.agg #[.int .i64 r1,.string r2,.string r3,.string r4],.int .i64 r5])∧Below w.heap.size w w':=h.default.calls a0 r1 r2 r3 r4 r5 w hf
end Go.Proofs.YtgabadlneeffkaaGreatDoor.G
