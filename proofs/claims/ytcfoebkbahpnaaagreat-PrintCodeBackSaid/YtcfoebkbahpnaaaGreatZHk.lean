/- The typed rows of the texts by hand (printed; structures of Hs). -/
import Derived.Test.YtcfoebkbahpnaaaGreatProg
import Derived.Below
import Derived.Deep.Draws
import Derived.Deep.AppendLies
import Derived.Maps.AppendAt
import Derived.OwnWalk
import Derived.Laws.BytesArg
import Derived.Laws.MakeOwn
import Derived.Laws.OwnMore
import Derived.Deep.OwnRows
import Derived.Tactics
import Derived.Lib.ConvBytes
import Derived.Laws.Slices
import Derived.WalkKit
import Derived.KernelRfl
import Derived.RowKit3
import Derived.Deep.LoopGhost
import Derived.Deep.QuietTactic
import Derived.BigQuiet
import Derived.WideLaws
import Derived.Deep.DeepCutAuto
import Derived.Deep.CutBlock
import Derived.Deep.RegionHeld3
import Derived.Laws.Rows
import Derived.Lib.AppendStr
import Derived.ArgAppend
import Derived.Laws.IdiomCopy
import Derived.OrdersHeld
import Derived.Laws.BitsLemmas
import Derived.RowKit
import Derived.WalkLawsBesides
import Derived.Lib.OthersKept
import Derived.Laws.RangeAny
import Derived.LoopN
import Derived.Lib.Strings
import Derived.Deep.WholeRow
import Derived.Test.YtcfoebkbahpnaaaGreatZMp
import Derived.Test.YtcfoebkbahpnaaaGreatZWWords
import Derived.Test.YtcfoebkbahpnaaaGreatZAd
import Derived.Test.YtcfoebkbahpnaaaGreatZWFoot
import Derived.Test.YtcfoebkbahpnaaaGreatZShelf
namespace Go.Proofs.YtcfoebkbahpnaaaGreat.Hd
open Go.RowKit Go.Proofs.YtcfoebkbahpnaaaGreatW.PrintWords Go.Proofs.YtcfoebkbahpnaaaGreatW.PrintLast 
set_option linter.unusedVariables false
set_option linter.unusedSimpArgs false



theorem info9 : (Tryz.prog.info? 9).map (fun i => (i.zero, i.size, i.bytes)) = some (some (.string ⟨#[]⟩), 1, 16) := by kernel_rfl
-- the values' own types
/-! #### struct type 46 -/
abbrev S46 := Ab.TermS
def z46 : S46 := ⟨(0 : Int), (⟨#[]⟩ : ByteArray), (⟨#[]⟩ : ByteArray), (⟨#[]⟩ : ByteArray)⟩
def k46 : Kd S46 := Kd.iso (Kd.pair (Kd.int .i64) (Kd.pair Kd.string (Kd.pair Kd.string Kd.string))) (fun x : S46 => (x.f0, x.f1, x.f2, x.f3))
theorem k46_open {w:World} {x:S46} {cs:List Value} (h:k46.K w x cs):cs= [.int .i64 x.f0,.string x.f1,.string x.f2,.string x.f3]:=by
 obtain⟨_,_,rfl,rfl,⟨_,_,rfl,rfl,⟨_,_,rfl,rfl,rfl⟩⟩⟩:=h;exact rfl
theorem k46_mk (w:World) (x:S46):k46.K w x [.int .i64 x.f0,.string x.f1,.string x.f2,.string x.f3]:=⟨[.int .i64 x.f0],[.string x.f1,.string x.f2,.string x.f3],rfl,rfl,⟨[.string x.f1],[.string x.f2,.string x.f3],rfl,rfl,⟨[.string x.f2],[.string x.f3],rfl,rfl,rfl⟩⟩⟩
def rd_T46 (xs : List S46) (i : Int) : S46 := xs.getD i.toNat z46
theorem at_T46 {w:World} {A:Option Addr} {n:Nat} {xs:List S46} (h:Kd.C k46 w A n xs) (i:Int) (h0:0≤i) (h1:i<n): ∃ ad,A=some ad∧w.cell? (ad.add (i.toNat*4))=some (.int .i64 (rd_T46 xs i).f0)∧w.cell? ⟨(ad.add (i.toNat*4)).block,(ad.add (i.toNat*4)).off+1,none⟩=some (.string (rd_T46 xs i).f1)∧w.cell? ⟨(ad.add (i.toNat*4)).block,(ad.add (i.toNat*4)).off+2,none⟩=some (.string (rd_T46 xs i).f2)∧w.cell? ⟨(ad.add (i.toNat*4)).block,(ad.add (i.toNat*4)).off+3,none⟩=some (.string (rd_T46 xs i).f3):=by
 obtain⟨ad,c,e,_,hK,hc0⟩:=Kd.C_get h z46 i h0 h1;have hc: ∀ j u,c[j]? =some u→w.cell? (ad.add (i.toNat*4+j))=some u:=hc0;obtain rfl:=k46_open hK;exact⟨ad,e,hc 0 _ rfl,by rw[← add_field _ _ 1 (by omega)];exact hc 1 _ rfl,by rw[← add_field _ _ 2 (by omega)];exact hc 2 _ rfl,by rw[← add_field _ _ 3 (by omega)];exact hc 3 _ rfl⟩
/-! #### struct type 100 -/
abbrev S100 := Ab.TriS
def z100 : S100 := ⟨z46, z46, z46⟩
def k100 : Kd S100 := Kd.iso (Kd.pair k46 (Kd.pair k46 k46)) (fun x : S100 => (x.f0, x.f1, x.f2))
theorem k100_open {w:World} {x:S100} {cs:List Value} (h:k100.K w x cs):cs= [.int .i64 x.f0.f0,.string x.f0.f1,.string x.f0.f2,.string x.f0.f3,.int .i64 x.f1.f0,.string x.f1.f1,.string x.f1.f2,.string x.f1.f3,.int .i64 x.f2.f0,.string x.f2.f1,.string x.f2.f2,.string x.f2.f3]:=by
 obtain⟨_,_,rfl,s0,⟨_,_,rfl,s4,s8⟩⟩:=h;obtain rfl:=k46_open s0;obtain rfl:=k46_open s4;obtain rfl:=k46_open s8;exact rfl
theorem k100_mk (w:World) (x:S100):k100.K w x [.int .i64 x.f0.f0,.string x.f0.f1,.string x.f0.f2,.string x.f0.f3,.int .i64 x.f1.f0,.string x.f1.f1,.string x.f1.f2,.string x.f1.f3,.int .i64 x.f2.f0,.string x.f2.f1,.string x.f2.f2,.string x.f2.f3]:=⟨[.int .i64 x.f0.f0,.string x.f0.f1,.string x.f0.f2,.string x.f0.f3],[.int .i64 x.f1.f0,.string x.f1.f1,.string x.f1.f2,.string x.f1.f3,.int .i64 x.f2.f0,.string x.f2.f1,.string x.f2.f2,.string x.f2.f3],rfl,(k46_mk w x.f0),⟨[.int .i64 x.f1.f0,.string x.f1.f1,.string x.f1.f2,.string x.f1.f3],[.int .i64 x.f2.f0,.string x.f2.f1,.string x.f2.f2,.string x.f2.f3],rfl,(k46_mk w x.f1),(k46_mk w x.f2)⟩⟩
def rd_T100 (xs : List S100) (i : Int) : S100 := xs.getD i.toNat z100
theorem at_T100 {w:World} {A:Option Addr} {n:Nat} {xs:List S100} (h:Kd.C k100 w A n xs) (i:Int) (h0:0≤i) (h1:i<n): ∃ ad,A=some ad∧w.cell? (ad.add (i.toNat*12))=some (.int .i64 (rd_T100 xs i).f0.f0)∧w.cell? ⟨(ad.add (i.toNat*12)).block,(ad.add (i.toNat*12)).off+1,none⟩=some (.string (rd_T100 xs i).f0.f1)∧w.cell? ⟨(ad.add (i.toNat*12)).block,(ad.add (i.toNat*12)).off+2,none⟩=some (.string (rd_T100 xs i).f0.f2)∧w.cell? ⟨(ad.add (i.toNat*12)).block,(ad.add (i.toNat*12)).off+3,none⟩=some (.string (rd_T100 xs i).f0.f3)∧w.cell? ⟨(ad.add (i.toNat*12)).block,(ad.add (i.toNat*12)).off+4,none⟩=some (.int .i64 (rd_T100 xs i).f1.f0)∧w.cell? ⟨(ad.add (i.toNat*12)).block,(ad.add (i.toNat*12)).off+5,none⟩=some (.string (rd_T100 xs i).f1.f1)∧w.cell? ⟨(ad.add (i.toNat*12)).block,(ad.add (i.toNat*12)).off+6,none⟩=some (.string (rd_T100 xs i).f1.f2)∧w.cell? ⟨(ad.add (i.toNat*12)).block,(ad.add (i.toNat*12)).off+7,none⟩=some (.string (rd_T100 xs i).f1.f3)∧w.cell? ⟨(ad.add (i.toNat*12)).block,(ad.add (i.toNat*12)).off+8,none⟩=some (.int .i64 (rd_T100 xs i).f2.f0)∧w.cell? ⟨(ad.add (i.toNat*12)).block,(ad.add (i.toNat*12)).off+9,none⟩=some (.string (rd_T100 xs i).f2.f1)∧w.cell? ⟨(ad.add (i.toNat*12)).block,(ad.add (i.toNat*12)).off+10,none⟩=some (.string (rd_T100 xs i).f2.f2)∧w.cell? ⟨(ad.add (i.toNat*12)).block,(ad.add (i.toNat*12)).off+11,none⟩=some (.string (rd_T100 xs i).f2.f3):=by
 obtain⟨ad,c,e,_,hK,hc0⟩:=Kd.C_get h z100 i h0 h1;have hc: ∀ j u,c[j]? =some u→w.cell? (ad.add (i.toNat*12+j))=some u:=hc0;obtain rfl:=k100_open hK;exact⟨ad,e,hc 0 _ rfl,by rw[← add_field _ _ 1 (by omega)];exact hc 1 _ rfl,by rw[← add_field _ _ 2 (by omega)];exact hc 2 _ rfl,by rw[← add_field _ _ 3 (by omega)];exact hc 3 _ rfl,by rw[← add_field _ _ 4 (by omega)];exact hc 4 _ rfl,by rw[← add_field _ _ 5 (by omega)];exact hc 5 _ rfl,by rw[← add_field _ _ 6 (by omega)];exact hc 6 _ rfl,by rw[← add_field _ _ 7 (by omega)];exact hc 7 _ rfl,by rw[← add_field _ _ 8 (by omega)];exact hc 8 _ rfl,by rw[← add_field _ _ 9 (by omega)];exact hc 9 _ rfl,by rw[← add_field _ _ 10 (by omega)];exact hc 10 _ rfl,by rw[← add_field _ _ 11 (by omega)];exact hc 11 _ rfl⟩
def rd_L4 (xs : List (List S46)) (i : Int) : (List S46) := xs.getD i.toNat ([] : List S46)
theorem at_L4 {w:World} {A:Option Addr} {n:Nat} {xs:List (List S46)} (h:Kd.C (Kd.slice 46 k46) w A n xs) (i:Int) (h0:0≤i) (h1:i<n): ∃ ad A0 c0,A=some ad∧w.cell? (ad.add i.toNat)=some (.slice A0 (rd_L4 xs i).length c0)∧(rd_L4 xs i).length≤c0∧k46.C w A0 (rd_L4 xs i).length (rd_L4 xs i):=by
 obtain⟨ad,c,e,_,hK,hc0⟩:=Kd.C_get h ([]:List S46) i h0 h1;have hc: ∀ j u,c[j]? =some u→w.cell? (ad.add (i.toNat*1+j))=some u:=hc0;obtain⟨A0,c0,rfl,l0,g0⟩:=hK;exact⟨ad,A0,c0,e,by have hq:=hc 0 _ rfl;rwa[Nat.mul_one,Nat.add_zero]at hq,l0,g0⟩
/-! #### struct type 98 -/
abbrev S98 := Ab.PartS
def z98 : S98 := ⟨(0 : Int), z46, (⟨#[]⟩ : ByteArray), (0 : Int)⟩
def k98 : Kd S98 := Kd.iso (Kd.pair (Kd.int .i64) (Kd.pair k46 (Kd.pair Kd.string (Kd.int .i64)))) (fun x : S98 => (x.f0, x.f1, x.f2, x.f3))
theorem k98_open {w:World} {x:S98} {cs:List Value} (h:k98.K w x cs):cs= [.int .i64 x.f0,.int .i64 x.f1.f0,.string x.f1.f1,.string x.f1.f2,.string x.f1.f3,.string x.f2,.int .i64 x.f3]:=by
 obtain⟨_,_,rfl,rfl,⟨_,_,rfl,s1,⟨_,_,rfl,rfl,rfl⟩⟩⟩:=h;obtain rfl:=k46_open s1;exact rfl
theorem k98_mk (w:World) (x:S98):k98.K w x [.int .i64 x.f0,.int .i64 x.f1.f0,.string x.f1.f1,.string x.f1.f2,.string x.f1.f3,.string x.f2,.int .i64 x.f3]:=⟨[.int .i64 x.f0],[.int .i64 x.f1.f0,.string x.f1.f1,.string x.f1.f2,.string x.f1.f3,.string x.f2,.int .i64 x.f3],rfl,rfl,⟨[.int .i64 x.f1.f0,.string x.f1.f1,.string x.f1.f2,.string x.f1.f3],[.string x.f2,.int .i64 x.f3],rfl,(k46_mk w x.f1),⟨[.string x.f2],[.int .i64 x.f3],rfl,rfl,rfl⟩⟩⟩
def rd_T98 (xs : List S98) (i : Int) : S98 := xs.getD i.toNat z98
theorem at_T98 {w:World} {A:Option Addr} {n:Nat} {xs:List S98} (h:Kd.C k98 w A n xs) (i:Int) (h0:0≤i) (h1:i<n): ∃ ad,A=some ad∧w.cell? (ad.add (i.toNat*7))=some (.int .i64 (rd_T98 xs i).f0)∧w.cell? ⟨(ad.add (i.toNat*7)).block,(ad.add (i.toNat*7)).off+1,none⟩=some (.int .i64 (rd_T98 xs i).f1.f0)∧w.cell? ⟨(ad.add (i.toNat*7)).block,(ad.add (i.toNat*7)).off+2,none⟩=some (.string (rd_T98 xs i).f1.f1)∧w.cell? ⟨(ad.add (i.toNat*7)).block,(ad.add (i.toNat*7)).off+3,none⟩=some (.string (rd_T98 xs i).f1.f2)∧w.cell? ⟨(ad.add (i.toNat*7)).block,(ad.add (i.toNat*7)).off+4,none⟩=some (.string (rd_T98 xs i).f1.f3)∧w.cell? ⟨(ad.add (i.toNat*7)).block,(ad.add (i.toNat*7)).off+5,none⟩=some (.string (rd_T98 xs i).f2)∧w.cell? ⟨(ad.add (i.toNat*7)).block,(ad.add (i.toNat*7)).off+6,none⟩=some (.int .i64 (rd_T98 xs i).f3):=by
 obtain⟨ad,c,e,_,hK,hc0⟩:=Kd.C_get h z98 i h0 h1;have hc: ∀ j u,c[j]? =some u→w.cell? (ad.add (i.toNat*7+j))=some u:=hc0;obtain rfl:=k98_open hK;exact⟨ad,e,hc 0 _ rfl,by rw[← add_field _ _ 1 (by omega)];exact hc 1 _ rfl,by rw[← add_field _ _ 2 (by omega)];exact hc 2 _ rfl,by rw[← add_field _ _ 3 (by omega)];exact hc 3 _ rfl,by rw[← add_field _ _ 4 (by omega)];exact hc 4 _ rfl,by rw[← add_field _ _ 5 (by omega)];exact hc 5 _ rfl,by rw[← add_field _ _ 6 (by omega)];exact hc 6 _ rfl⟩
/-! #### struct type 40 -/
abbrev S40 := Ab.TabS
def z40 : S40 := ⟨([] : List ByteArray), ([] : List (List S46))⟩
def k40 : Kd S40 := Kd.iso (Kd.pair (Kd.slice 9 Kd.string) (Kd.slice 72 (Kd.slice 46 k46))) (fun x : S40 => (x.f0, x.f1))
theorem k40_open {w:World} {x:S40} {cs:List Value} (h:k40.K w x cs): ∃ A0 c0 A1 c1,cs= [.slice A0 x.f0.length c0,.slice A1 x.f1.length c1]∧x.f0.length≤c0∧Kd.string.C w A0 x.f0.length x.f0∧x.f1.length≤c1∧(Kd.slice 46 k46).C w A1 x.f1.length x.f1:=by
 obtain⟨_,_,rfl,⟨A0,c0,rfl,l0,g0⟩,⟨A1,c1,rfl,l1,g1⟩⟩:=h;exact⟨A0,c0,A1,c1,rfl,l0,g0,l1,g1⟩
theorem k40_mk (w:World) (x:S40) {A0:Option Addr} {c0:Nat} (l0:x.f0.length≤c0) (g0:Kd.string.C w A0 x.f0.length x.f0) {A1:Option Addr} {c1:Nat} (l1:x.f1.length≤c1) (g1:(Kd.slice 46 k46).C w A1 x.f1.length x.f1):k40.K w x [.slice A0 x.f0.length c0,.slice A1 x.f1.length c1]:=⟨[.slice A0 x.f0.length c0],[.slice A1 x.f1.length c1],rfl,⟨A0,c0,rfl,l0,g0⟩,⟨A1,c1,rfl,l1,g1⟩⟩
/-! #### struct type 43 -/
abbrev S43 := Ab.OpS
def z43 : S43 := ⟨(0 : Int), ([] : List S100), z40, ([] : List S98), (⟨#[]⟩ : ByteArray), false⟩
def k43 : Kd S43 := Kd.iso (Kd.pair (Kd.int .i64) (Kd.pair (Kd.slice 100 k100) (Kd.pair k40 (Kd.pair (Kd.slice 98 k98) (Kd.pair Kd.string Kd.bool))))) (fun x : S43 => (x.f0, x.f1, x.f2, x.f3, x.f4, x.f5))
theorem k43_open {w:World} {x:S43} {cs:List Value} (h:k43.K w x cs): ∃ A1 c1 A2 c2 A3 c3 A4 c4,cs= [.int .i64 x.f0,.slice A1 x.f1.length c1,.slice A2 x.f2.f0.length c2,.slice A3 x.f2.f1.length c3,.slice A4 x.f3.length c4,.string x.f4,.bool x.f5]∧x.f1.length≤c1∧k100.C w A1 x.f1.length x.f1∧x.f2.f0.length≤c2∧Kd.string.C w A2 x.f2.f0.length x.f2.f0∧x.f2.f1.length≤c3∧(Kd.slice 46 k46).C w A3 x.f2.f1.length x.f2.f1∧x.f3.length≤c4∧k98.C w A4 x.f3.length x.f3:=by
 obtain⟨_,_,rfl,rfl,⟨_,_,rfl,⟨A1,c1,rfl,l1,g1⟩,⟨_,_,rfl,s2,⟨_,_,rfl,⟨A4,c4,rfl,l4,g4⟩,⟨_,_,rfl,rfl,rfl⟩⟩⟩⟩⟩:=h;obtain⟨A2,c2,A3,c3,rfl,l2,g2,l3,g3⟩:=k40_open s2;exact⟨A1,c1,A2,c2,A3,c3,A4,c4,rfl,l1,g1,l2,g2,l3,g3,l4,g4⟩
theorem k43_mk (w:World) (x:S43) {A1:Option Addr} {c1:Nat} (l1:x.f1.length≤c1) (g1:k100.C w A1 x.f1.length x.f1) {A2:Option Addr} {c2:Nat} (l2:x.f2.f0.length≤c2) (g2:Kd.string.C w A2 x.f2.f0.length x.f2.f0) {A3:Option Addr} {c3:Nat} (l3:x.f2.f1.length≤c3) (g3:(Kd.slice 46 k46).C w A3 x.f2.f1.length x.f2.f1) {A4:Option Addr} {c4:Nat} (l4:x.f3.length≤c4) (g4:k98.C w A4 x.f3.length x.f3):k43.K w x [.int .i64 x.f0,.slice A1 x.f1.length c1,.slice A2 x.f2.f0.length c2,.slice A3 x.f2.f1.length c3,.slice A4 x.f3.length c4,.string x.f4,.bool x.f5]:=⟨[.int .i64 x.f0],[.slice A1 x.f1.length c1,.slice A2 x.f2.f0.length c2,.slice A3 x.f2.f1.length c3,.slice A4 x.f3.length c4,.string x.f4,.bool x.f5],rfl,rfl,⟨[.slice A1 x.f1.length c1],[.slice A2 x.f2.f0.length c2,.slice A3 x.f2.f1.length c3,.slice A4 x.f3.length c4,.string x.f4,.bool x.f5],rfl,⟨A1,c1,rfl,l1,g1⟩,⟨[.slice A2 x.f2.f0.length c2,.slice A3 x.f2.f1.length c3],[.slice A4 x.f3.length c4,.string x.f4,.bool x.f5],rfl,(k40_mk w x.f2 l2 g2 l3 g3),⟨[.slice A4 x.f3.length c4],[.string x.f4,.bool x.f5],rfl,⟨A4,c4,rfl,l4,g4⟩,⟨[.string x.f4],[.bool x.f5],rfl,rfl,rfl⟩⟩⟩⟩⟩
def rd_T43 (xs : List S43) (i : Int) : S43 := xs.getD i.toNat z43
theorem at_T43 {w:World} {A:Option Addr} {n:Nat} {xs:List S43} (h:Kd.C k43 w A n xs) (i:Int) (h0:0≤i) (h1:i<n): ∃ ad A1 c1 A2 c2 A3 c3 A4 c4,A=some ad∧w.cell? (ad.add (i.toNat*7))=some (.int .i64 (rd_T43 xs i).f0)∧w.cell? ⟨(ad.add (i.toNat*7)).block,(ad.add (i.toNat*7)).off+1,none⟩=some (.slice A1 (rd_T43 xs i).f1.length c1)∧w.cell? ⟨(ad.add (i.toNat*7)).block,(ad.add (i.toNat*7)).off+2,none⟩=some (.slice A2 (rd_T43 xs i).f2.f0.length c2)∧w.cell? ⟨(ad.add (i.toNat*7)).block,(ad.add (i.toNat*7)).off+3,none⟩=some (.slice A3 (rd_T43 xs i).f2.f1.length c3)∧w.cell? ⟨(ad.add (i.toNat*7)).block,(ad.add (i.toNat*7)).off+4,none⟩=some (.slice A4 (rd_T43 xs i).f3.length c4)∧w.cell? ⟨(ad.add (i.toNat*7)).block,(ad.add (i.toNat*7)).off+5,none⟩=some (.string (rd_T43 xs i).f4)∧w.cell? ⟨(ad.add (i.toNat*7)).block,(ad.add (i.toNat*7)).off+6,none⟩=some (.bool (rd_T43 xs i).f5)∧(rd_T43 xs i).f1.length≤c1∧k100.C w A1 (rd_T43 xs i).f1.length (rd_T43 xs i).f1∧(rd_T43 xs i).f2.f0.length≤c2∧Kd.string.C w A2 (rd_T43 xs i).f2.f0.length (rd_T43 xs i).f2.f0∧(rd_T43 xs i).f2.f1.length≤c3∧(Kd.slice 46 k46).C w A3 (rd_T43 xs i).f2.f1.length (rd_T43 xs i).f2.f1∧(rd_T43 xs i).f3.length≤c4∧k98.C w A4 (rd_T43 xs i).f3.length (rd_T43 xs i).f3:=by
 obtain⟨ad,c,e,_,hK,hc0⟩:=Kd.C_get h z43 i h0 h1;have hc: ∀ j u,c[j]? =some u→w.cell? (ad.add (i.toNat*7+j))=some u:=hc0;obtain⟨A1,c1,A2,c2,A3,c3,A4,c4,rfl,l1,g1,l2,g2,l3,g3,l4,g4⟩:=k43_open hK;exact⟨ad,A1,c1,A2,c2,A3,c3,A4,c4,e,hc 0 _ rfl,by rw[← add_field _ _ 1 (by omega)];exact hc 1 _ rfl,by rw[← add_field _ _ 2 (by omega)];exact hc 2 _ rfl,by rw[← add_field _ _ 3 (by omega)];exact hc 3 _ rfl,by rw[← add_field _ _ 4 (by omega)];exact hc 4 _ rfl,by rw[← add_field _ _ 5 (by omega)];exact hc 5 _ rfl,by rw[← add_field _ _ 6 (by omega)];exact hc 6 _ rfl,l1,g1,l2,g2,l3,g3,l4,g4⟩
/-! #### struct type 48 -/
end Go.Proofs.YtcfoebkbahpnaaaGreat.Hd
