import Derived.Test.YtcfoebkbahpnaaaGreatZAa
import Derived.Test.YtcfoebkbahpnaaaGreatProg
import Derived.Test.YtcfoebkbahpnaaaGreatZFa
import Derived.Test.YtcfoebkbahpnaaaGreatZHs
import Derived.Laws.BitsLemmas
namespace Go.Proofs.YtcfoebkbahpnaaaGreat.Ab
open Go
def fcs : List (Nat × FC) := [(3, ⟨[0, 2, 3, 4, 5, 7, 8, 9, 10], [], [], [], [2], [], [2]⟩),
  (4, ⟨[0, 2, 3, 4], [], [], [], [2, 3], [], [2, 3]⟩),
  (5, ⟨[0, 1, 2], [], [], [], [0], [], [0]⟩),
  (6, ⟨[0, 2, 3, 4, 5, 6, 7, 8, 9], [7], [(5, [0, 5, 6])], [(0, [5]), (1, [0, 5, 6])], [2, 3, 4], [], [2, 3, 4]⟩),
  (7, ⟨[0, 1, 4, 5, 6, 7, 8, 9], [22], [], [], [4, 5, 6], [], [4, 5, 6]⟩),
  (8, ⟨[0, 1, 4, 5], [], [(4, [0, 1, 5])], [(0, []), (1, [0, 1, 5])], [4], [], [4]⟩),
  (11, ⟨[0, 1, 2, 6, 7, 8], [], [(2, [0, 1, 2, 7])], [(0, [7]), (1, [0, 1, 2, 7])], [6], [], [6]⟩),
  (12, ⟨[0, 1, 4, 5, 6, 7, 8], [4, 7], [], [], [4, 5, 6], [], [4, 5, 6]⟩),
  (13, ⟨[0, 2, 3, 4, 6, 12, 13, 14], [], [(3, [3, 12, 13, 14])], [(0, [3]), (1, [3, 12, 13, 14])], [2], [], [2]⟩),
  (14, ⟨[0, 1, 2, 3, 4, 5, 6], [2, 3], [(6, [2, 3, 5]), (11, [2, 3, 5, 6])], [(0, []), (1, [2, 3, 5]), (2, [2, 3, 5]), (3, [2, 3, 5, 6])], [4], [], [4]⟩),
  (16, ⟨[0, 1, 2, 4, 5, 8, 12], [1], [], [(0, [])], [2], [], [2]⟩),
  (17, ⟨[0, 1, 2, 4, 5, 7, 15], [2], [], [(0, [1, 2])], [4], [], [4]⟩),
  (18, ⟨[0, 2], [], [], [], [2], [], [2]⟩),
  (19, ⟨[0, 2], [], [], [], [2], [], [2]⟩),
  (20, ⟨[0, 2], [], [], [], [2], [], [2]⟩),
  (21, ⟨[0, 2, 3, 4, 5], [2, 4], [], [], [2, 3], [], [2, 3]⟩),
  (22, ⟨[0, 2, 3, 4, 5, 6], [6], [(4, [0, 4, 5])], [(0, [4, 5]), (1, [0, 4, 5]), (2, [0, 4, 5])], [2, 3], [], [2, 3]⟩),
  (23, ⟨[0, 1, 4, 5], [], [(4, [0, 1, 5])], [(0, []), (1, [0, 1, 5])], [4], [], [4]⟩),
  (24, ⟨[0, 1, 4, 5], [], [(4, [0, 1, 5])], [(0, []), (1, [0, 1, 5])], [4], [], [4]⟩),
  (25, ⟨[0, 1, 4, 5], [], [(4, [0, 1, 5])], [(0, []), (1, [0, 1, 5])], [4], [], [4]⟩),
  (26, ⟨[0, 1, 2, 3, 89], [1], [], [(0, [1])], [2], [(3, ([1], [])), (5, ([1], []))], [2]⟩),
  (31, ⟨[0, 2, 3, 5, 6, 7, 8], [5], [(3, [3, 6, 7, 8])], [(0, [3]), (1, [3, 6, 7, 8])], [2], [], [2]⟩),
  (32, ⟨[0, 1, 2, 3, 5, 7, 9, 11, 12, 13, 27, 28, 29, 36, 37, 38], [1, 9], [(3, [1, 3, 11, 12, 13]), (9, [3, 27, 28, 29]), (13, [3, 27, 28, 29, 36, 37, 38])], [(0, [1, 3]), (1, [1, 3, 11, 12, 13]), (2, [3]), (3, [3, 27, 28, 29]), (4, [3, 27, 28, 29]), (5, [3, 27, 28, 29, 36, 37, 38])], [2], [], [2]⟩),
  (33, ⟨[0, 2, 3, 5, 6, 7, 8], [], [(3, [3, 6, 7, 8])], [(0, [3]), (1, [3, 6, 7, 8])], [2], [], [2]⟩),
  (34, ⟨[0, 1, 2, 6], [], [], [], [6], [], [6]⟩),
  (35, ⟨[0, 2, 3, 4, 5, 6, 12], [2], [], [(0, [2])], [2, 3], [], [2, 3]⟩),
  (36, ⟨[0, 2, 3], [], [], [], [2], [], [2]⟩),
  (37, ⟨[0, 1], [], [], [], [], [], []⟩),
  (38, ⟨[0, 1, 4], [], [], [], [4], [], [4]⟩),
  (39, ⟨[0, 2], [2], [], [], [2], [], [2]⟩),
  (40, ⟨[0, 1, 4], [], [], [], [4], [], [4]⟩),
  (41, ⟨[0, 2, 3, 4], [2, 3, 4], [(2, [0, 2, 3])], [(0, [2, 3]), (1, [0, 2, 3])], [2], [], [2]⟩),
  (42, ⟨[0, 1, 4], [], [], [], [4], [], [4]⟩),
  (43, ⟨[0, 2, 3, 4, 5, 11], [], [], [], [2], [], []⟩),
  (44, ⟨[0, 1, 4, 5, 6, 7, 8, 9, 10, 11, 12, 13, 14, 26, 27, 28], [7, 11, 12, 13], [(5, [1, 5, 7, 26, 27, 28]), (33, [0, 1, 14])], [(0, [0, 1]), (1, [1, 5, 7]), (2, [1, 5, 7, 26, 27, 28]), (3, [1, 14]), (4, [0, 1, 14])], [4], [], [4]⟩),
  (45, ⟨[0, 2], [], [], [], [2], [], [2]⟩),
  (46, ⟨[0, 2, 3, 5, 9, 10, 11], [5], [(5, [3, 9, 10, 11])], [(0, [3]), (1, [3, 9, 10, 11])], [2], [], [2]⟩),
  (47, ⟨[0, 2, 4, 5, 6, 7], [4], [(2, [0, 5, 6, 7])], [(0, [0]), (1, [0, 5, 6, 7])], [2], [], [2]⟩),
  (48, ⟨[0, 1, 2, 3, 4, 6, 8, 20, 21, 22, 40, 41, 42, 52, 53, 54], [1, 8], [(4, [1, 20, 21, 22]), (10, [1, 40, 41, 42]), (15, [1, 40, 41, 42, 52, 53, 54])], [(0, [1]), (1, [1, 20, 21, 22]), (2, []), (3, [1, 40, 41, 42]), (4, [1, 40, 41, 42]), (5, [1, 40, 41, 42, 52, 53, 54])], [2], [], [2]⟩),
  (49, ⟨[0, 2], [], [], [], [2], [], [2]⟩),
  (50, ⟨[0, 1, 2, 3, 4, 14, 31], [1], [], [(0, [3])], [2], [], [2]⟩),
  (51, ⟨[0, 1, 2, 3, 5, 7, 8], [1, 5], [(3, [3, 7, 8])], [(0, [3]), (1, [3, 7, 8])], [2], [], [2]⟩),
  (56, ⟨[0, 1, 2], [1], [], [(0, [])], [2], [], [2]⟩),
  (57, ⟨[0, 1, 2, 4, 5, 7, 8, 9, 81, 82, 83], [2], [(14, [7, 81, 82, 83])], [(0, [1, 2]), (1, [7]), (2, [7, 81, 82, 83])], [4], [], [4]⟩),
  (58, ⟨[0, 1, 2, 3], [1], [], [], [2], [], [2]⟩),
  (60, ⟨[0, 1, 4, 5], [], [(2, [0, 1, 5])], [(0, []), (1, [0, 1, 5])], [4], [], [4]⟩),
  (61, ⟨[0, 2], [], [], [], [2], [], [2]⟩),
  (62, ⟨[0, 2, 3, 4, 5, 6, 7, 8], [2, 7], [], [], [2, 3], [], [2, 3]⟩),
  (63, ⟨[0, 2, 3], [], [(2, [0, 3])], [(0, [3]), (1, [0, 3])], [2], [], [2]⟩),
  (64, ⟨[0, 1, 4, 5], [], [(2, [0, 1, 5])], [(0, []), (1, [0, 1, 5])], [4], [], [4]⟩),
  (65, ⟨[0, 1, 2, 6, 7], [7], [], [], [6], [], [6]⟩),
  (66, ⟨[0, 2, 3], [2, 3], [], [], [2], [], [2]⟩),
  (67, ⟨[0, 1, 2], [1], [], [], [2], [], [2]⟩),
  (68, ⟨[0, 1, 4, 5, 6, 7, 8], [20], [], [], [4, 5, 6], [], []⟩),
  (69, ⟨[0, 2, 3], [3], [], [], [2], [], [2]⟩),
  (70, ⟨[0, 2, 3, 4, 5, 6], [2, 3, 5], [(3, [0, 2, 3]), (7, [0, 2, 3]), (9, [0, 2, 3, 4])], [(0, [0, 2, 3]), (1, [0, 2, 3]), (2, [0, 2, 3]), (3, [0, 2, 3]), (4, [0, 2, 3, 4]), (5, [0, 2, 3, 4])], [2], [], [2]⟩),
  (71, ⟨[0, 1, 2, 3, 6], [1, 3], [], [(0, [1, 3]), (1, [1, 3]), (2, [1, 3]), (3, [1, 3]), (4, [1, 3])], [2], [], [2]⟩),
  (72, ⟨[0, 1, 4], [], [], [], [4], [], [4]⟩),
  (73, ⟨[0, 2, 3], [], [(4, [0, 3])], [(0, [3]), (1, [0, 3])], [2], [], [2]⟩),
  (75, ⟨[0, 2, 3], [], [(4, [0, 3])], [(0, []), (1, [0, 3])], [2], [], [2]⟩),
  (76, ⟨[0, 2, 3], [], [(4, [0, 3])], [(0, []), (1, [0, 3])], [2], [], [2]⟩),
  (77, ⟨[0, 1, 2], [1, 2], [], [], [2], [], [2]⟩),
  (78, ⟨[0, 1, 2, 3, 4, 5, 12], [1], [], [(0, [])], [2, 3], [], [2, 3]⟩),
  (79, ⟨[0, 2, 3], [3], [], [], [2], [], [2]⟩),
  (83, ⟨[0, 1, 4, 5, 6, 7, 17], [], [(2, [0, 1, 5])], [(0, []), (1, [0, 1, 5]), (2, [0, 1, 5, 7])], [4], [], [4]⟩),
  (84, ⟨[0, 2, 3], [], [(2, [0, 3])], [(0, []), (1, [0, 3])], [2], [], [2]⟩),
  (85, ⟨[0, 2, 3, 4, 5, 48, 49], [], [(3, [0, 4, 5])], [(0, [4]), (1, [0, 4, 5]), (2, [0, 4, 5])], [2, 3], [], [2, 3]⟩),
  (86, ⟨[0, 1, 2, 4, 5, 6, 7], [2, 4], [(8, [1, 2, 4, 7])], [(0, [1, 2, 4, 7]), (1, [1, 2, 4, 7])], [4, 5], [], [4, 5]⟩),
  (87, ⟨[0, 2], [], [], [], [2], [], [2]⟩),
  (88, ⟨[0, 1, 2, 4, 6, 7], [1, 4], [(2, [6, 7])], [(0, []), (1, [6, 7])], [2], [], [2]⟩),
  (89, ⟨[0, 1, 5, 20, 21, 22], [], [(3, [0, 1]), (5, [0, 1, 20, 21, 22])], [(0, []), (1, [0, 1]), (2, []), (3, [0, 1, 20, 21, 22])], [], [], []⟩),
  (90, ⟨[0, 2, 3, 4], [2, 4], [], [(0, [2])], [2, 3], [], [2, 3]⟩),
  (91, ⟨[0, 1, 4, 5, 7, 8], [], [(2, [0, 1, 7, 8])], [(0, []), (1, [0, 1, 7, 8])], [4], [], [4]⟩),
  (92, ⟨[0, 2], [], [], [], [2], [], [2]⟩),
  (93, ⟨[0, 2], [], [], [], [2], [], [2]⟩),
  (94, ⟨[0, 2, 3, 6], [], [], [(0, [0]), (1, []), (2, [])], [2], [], [2]⟩),
  (95, ⟨[0, 2, 3, 4, 14, 21], [], [(3, [0, 3, 4])], [(0, [3]), (1, [0, 3, 4]), (2, [0, 3, 4])], [2], [], [2]⟩),
  (98, ⟨[0, 2], [], [], [], [2], [], [2]⟩),
  (99, ⟨[0], [], [], [(0, [])], [], [], []⟩),
  (100, ⟨[0, 2, 3], [], [], [(0, [])], [2], [], [2]⟩),
  (101, ⟨[0, 1, 4], [], [], [], [4], [], [4]⟩),
  (102, ⟨[0, 1, 3], [3], [], [], [], [], []⟩),
  (105, ⟨[0, 2, 7], [2], [], [(0, [])], [], [], []⟩),
  (106, ⟨[0, 1, 2, 6, 17, 32], [], [], [], [6], [], [6]⟩),
  (107, ⟨[0, 1], [], [], [], [], [], []⟩),
  (108, ⟨[0, 1, 4, 5, 32], [], [(13, [0, 1, 4])], [(0, [0, 1]), (1, [0]), (2, [0, 1, 4])], [], [], []⟩),
  (109, ⟨[0, 1, 4, 5], [5], [(2, [0, 1, 4])], [(0, [0, 1, 4]), (1, [0, 1, 4])], [], [], []⟩)]

noncomputable def G : Cfg := { P := Tryz.prog, fc := fun f => look ⟨[], [], [], [], [], [], []⟩ f fcs, ownp := fun f => look [] f [(40, [0, 1]), (44, [1]), (45, [0])], eqs := fun t => mem t [46, 98, 100], disr := fun f => mem f [43, 68] }
end Go.Proofs.YtcfoebkbahpnaaaGreat.Ab

/- Plain words for what the printed functions read: bytes, rows, sums; fuel. -/
set_option linter.unusedVariables false
set_option linter.unusedSimpArgs false
namespace Go.Proofs.YtcfoebkbahpnaaaGreat.Ab
open Go Go.Proofs.YtcfoebkbahpnaaaGreat

/-! fuel -/
def Ev (P : Nat → Prop) : Prop := ∃ n0, ∀ n, n0 ≤ n → P n
theorem Ev.of {P:Nat→Prop} (h: ∀ n,P n):Ev P:=⟨0,fun n _=>h n⟩
theorem Ev.imp {P Q:Nat→Prop} (h:Ev P) (k: ∀ n,P n→Q n):Ev Q:=by
 obtain⟨a,ha⟩:=h;exact⟨a,fun n hn=>k n (ha n hn)⟩
theorem Ev.and {P Q:Nat→Prop} (h:Ev P) (k:Ev Q):Ev (fun n=>P n∧Q n):=by
 obtain⟨a,ha⟩:=h;obtain⟨b,hb⟩:=k;exact⟨max a b,fun n hn=>⟨ha n (by omega),hb n (by omega)⟩⟩
theorem Ev.all {α:Type} {P:α→Nat→Prop}: ∀ (l:List α),(∀ x ∈ l,Ev (P x))→Ev (fun n=> ∀ x ∈ l,P x n)
 | [],_=>Ev.of fun n x hx=>by cases hx
 |a::l,h=>((h a (List.mem_cons_self ..)).and (Ev.all l fun x hx=>h x (List.mem_cons_of_mem _ hx))).imp fun n hn x hx=>by
  rcases List.mem_cons.1 hx with rfl|hx
  ·exact hn.1
  exact hn.2 x hx
/-! conditions -/
theorem bifd {α:Type} {p:Prop} [Decidable p] (a b:α):(bif decide p then a else b)=if p then a else b:=by by_cases h:p<;>simp[h]
theorem bifd2 {α:Type} {p q:Prop} [Decidable p] [Decidable q] (a b:α):(bif decide p && decide q then a else b)=if p∧q then a else b:=by by_cases h:p<;>by_cases h':q<;>simp[h,h']
theorem bifd3 {α:Type} {p q r:Prop} [Decidable p] [Decidable q] [Decidable r] (a b:α):(bif (decide p && decide q) && decide r then a else b)=if(p∧q)∧r then a else b:=by by_cases h:p<;>by_cases h':q<;>by_cases h'':r<;>simp[h,h',h'']
theorem bifn {α:Type} (c:Bool) (a b:α):(bif !c then a else b)=bif c then b else a:=by cases c<;>rfl
theorem strEq_nil (s:ByteArray):strEq s ⟨#[]⟩=s.data.toList.isEmpty:=by
 unfold strEq;cases s.data.toList<;>rfl
theorem eqL_iff: ∀ a b:List UInt8,eqL a b=true ↔ a=b
 | [],[]=>by simp[eqL]
 | [],_::_=>by simp[eqL]
 |_::_,[]=>by simp[eqL]
 |x::r,y::s=>by
  simp only[eqL,Bool.and_eq_true,List.cons.injEq,eqL_iff r s];constructor
  ·rintro⟨h,rfl⟩;exact⟨UInt8.toNat_inj.1 (Nat.eq_of_beq_eq_true h),rfl⟩
  rintro⟨rfl,rfl⟩;exact⟨Nat.beq_refl _,rfl⟩
theorem strEq_iffL (a b:ByteArray):strEq a b=true ↔ a.data.toList=b.data.toList:=eqL_iff _ _
theorem strEq_dec (a b:ByteArray):strEq a b=decide (a.data.toList=b.data.toList):=by
 by_cases h:a.data.toList=b.data.toList
 ·rw[(strEq_iffL a b).2 h];simp[h]
 have:strEq a b=false:=by cases e:strEq a b;rfl;exact absurd ((strEq_iffL a b).1 e) h
 rw[this];simp[h]
/-! numbers and bytes -/
theorem wr_eq (n:Int) (h1: -9223372036854775808≤n) (h2:n<9223372036854775808):wr n=n:=by unfold wr;rw[IntKind.wrap_i64];omega
theorem wr_nat {n:Nat} (h:n<9223372036854775808):wr (n:Int)=(n:Int):=by unfold wr;rw[IntKind.wrap_i64];omega
theorem wr_succ {n:Nat} (h:n<9223372036854775807):wr ((n:Int)+1)=((n+1:Nat):Int):=by
 rw[show(n:Int)+1=((n+1:Nat):Int)by omega];exact wr_nat (by omega)
theorem ch_drop {s:ByteArray} {i:Nat} {c:UInt8} {r:List UInt8} (h:s.data.toList.drop i=c::r):ch s (i:Int)=(c.toNat:Int)∧i<s.size∧s.data.toList.drop (i+1)=r:=by
 have hi:i<s.data.toList.length:=by
  rcases Nat.lt_or_ge i s.data.toList.length with h'|h'
  ·exact h'
  rw[List.drop_eq_nil_of_le h']at h;cases h
 have h2:=List.drop_eq_getElem_cons hi;rw[h]at h2;injection h2 with h3 h4
 refine⟨?_,by rw[← size_toList];exact hi,h4.symm⟩;unfold ch;rw[Int.toNat_natCast,List.getD_eq_getElem?_getD,List.getElem?_eq_getElem hi,← h3];rfl
theorem drop_size {s:ByteArray} {i:Nat} (h:s.data.toList.drop i= []):s.size≤i:=by
 rw[← size_toList];exact List.drop_eq_nil_iff.1 h
theorem ext_list (s:ByteArray) (i j:Nat):(s.extract i j).data.toList=(s.data.toList.drop i).take (j - i):=by
 rw[ByteArray.data_extract,Array.toList_extract,List.extract_eq_take_drop]
theorem catC_ok {a b:ByteArray} {K:ByteArray→Option R} (h:a.size+b.size≤9223372036854775807):catC a b K=K (a++b):=by
 unfold catC;rw[Nat.ble_eq_true_of_le h];rfl
theorem cat_ofL (a b:List UInt8):ofL a++ofL b=ofL (a++b):=ofL_append a b
theorem catL {a b:List UInt8} {K:ByteArray→Option R} (h:a.length+b.length≤9223372036854775807):catC (ofL a) (ofL b) K=K (ofL (a++b)):=by
 rw[catC_ok (by rw[ofL_size,ofL_size];exact h),cat_ofL]
theorem appC_ok {k:Nat} {r r':RW} {K:RW→Option R} (h1:(r.length+r'.length)*k≤140737488355328) (h2:r.length+r'.length≤4611686018427387904):appC k r r' K=K (r++r'.map (·.map DV.dis1)):=by
 unfold appC;rw[Nat.ble_eq_true_of_le h1,Nat.ble_eq_true_of_le h2];rfl
theorem bytes_urow (l:List UInt8):bytesOf (urow l)=some l:=by
 induction l with
 |nil=>rfl
 |cons c r ih=>
  (show(bytesOf (urow r)).map _=_);rw[ih];simp
theorem bytesC_ok (l:List UInt8) (K:ByteArray→Option R):bytesC (urow l) K=K (ofL l):=by unfold bytesC;rw[bytes_urow];rfl
theorem rd_s_ok {l:List ByteArray} {i:Nat} {s:ByteArray} (h:l[i]? =some s) (K:ByteArray→Option R):rd_s (srow l) i K=K s:=by
 unfold rd_s rowC srow;rw[List.getElem?_map,h];rfl
end Go.Proofs.YtcfoebkbahpnaaaGreat.Ab
