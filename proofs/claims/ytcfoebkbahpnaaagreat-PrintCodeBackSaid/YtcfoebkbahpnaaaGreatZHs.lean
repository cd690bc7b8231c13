/- The pure forms: structures, their cells; terms, formulas, operations that are right; their texts; names in scope. -/
import Derived.Test.YtcfoebkbahpnaaaGreatZSt
set_option linter.unusedVariables false
set_option linter.unusedSimpArgs false
namespace Go.Proofs.YtcfoebkbahpnaaaGreat.Ab
open Go Go.Proofs.YtcfoebkbahpnaaaGreat
/-- bytes as rows -/
def urow (l : List UInt8) : RW := l.map fun b => [U (b.toNat : Int)]
/-- texts as rows -/
def srow (l : List ByteArray) : RW := l.map fun s => [S s]
def TB (l : List ByteArray) : List (List UInt8) := l.map (·.data.toList)
/-- a term as its cells -/
def tmOf (k : Int) (x ty la : ByteArray) : Tm := ⟨k, x.data.toList, ty.data.toList, la.data.toList⟩
structure TermS where
  f0 : Int
  f1 : ByteArray
  f2 : ByteArray
  f3 : ByteArray
structure TriS where
  f0 : TermS
  f1 : TermS
  f2 : TermS
structure PartS where
  f0 : Int
  f1 : TermS
  f2 : ByteArray
  f3 : Int
structure TabS where
  f0 : List ByteArray
  f1 : List (List TermS)
structure OpS where
  f0 : Int
  f1 : List TriS
  f2 : TabS
  f3 : List PartS
  f4 : ByteArray
  f5 : Bool
def eTerm (t : TermS) : List DV := [I t.f0, S t.f1, S t.f2, S t.f3]
def eTri (t : TriS) : List DV := [I t.f0.f0, S t.f0.f1, S t.f0.f2, S t.f0.f3, I t.f1.f0, S t.f1.f1, S t.f1.f2, S t.f1.f3, I t.f2.f0, S t.f2.f1, S t.f2.f2, S t.f2.f3]
def ePart (p : PartS) : List DV := [I p.f0, I p.f1.f0, S p.f1.f1, S p.f1.f2, S p.f1.f3, S p.f2, I p.f3]
def eRow (r : List TermS) : List DV := [.sl false 4 (r.map eTerm)]
def eOp (o : OpS) : List DV := [I o.f0, .sl false 12 (o.f1.map eTri), .sl false 1 (srow o.f2.f0), .sl false 1 (o.f2.f1.map eRow), .sl false 7 (o.f3.map ePart), S o.f4, B o.f5]
def TermS.lt (n : Nat) (t : TermS) : Prop := t.f1.size < n ∧ t.f2.size < n ∧ t.f3.size < n
def TriS.lt (n : Nat) (t : TriS) : Prop := t.f0.lt n ∧ t.f1.lt n ∧ t.f2.lt n
def PartS.lt (n : Nat) (p : PartS) : Prop := p.f1.lt n ∧ p.f2.size < n
/-- fuel that is enough, and not too much -/
def Fuel (n : Nat) : Prop := 300 ≤ n ∧ n < 1152921504606846976

def T (t : TermS) : Tm := tmOf t.f0 t.f1 t.f2 t.f3
def fneeds (kd n : Int) : Int :=
  if 1 ≤ kd ∧ kd ≤ 3 then 0 else if kd = 4 ∨ kd = 5 ∨ (18 ≤ kd ∧ kd ≤ 23) then 1 else if (6 ≤ kd ∧ kd ≤ 17) ∨ kd = 24 then 2 else if kd = 25 then 3 else if kd = 26 ∧ 1 ≤ n ∧ n ≤ 16 then n else -1
def tmZ (t : TermS) : Bool := t.f0 == 0 && (t.f1.data.toList.isEmpty && (t.f2.data.toList.isEmpty && t.f3.data.toList.isEmpty))
def partOK (p : PartS) : Bool :=
  if p.f0 = 1 then okTm (T p.f1) && (p.f1.f0 == 1 || p.f1.f0 == 2) && (p.f2.data.toList.isEmpty && p.f3 == 0)
  else if p.f0 = 2 ∨ p.f0 = 3 then okName p.f2.data.toList && (tmZ p.f1 && p.f3 == 0)
  else if p.f0 = 26 then decide (0 ≤ fneeds 26 p.f3) && (tmZ p.f1 && p.f2.data.toList.isEmpty)
  else decide (0 ≤ fneeds p.f0 p.f3) && (tmZ p.f1 && (p.f2.data.toList.isEmpty && p.f3 == 0))
def fchk : Int → List PartS → Int
  | n, [] => if n = 1 then 0 else 2
  | n, p :: r => if partOK p = true then (if fneeds p.f0 p.f3 > n then 2 else fchk (n + (1 - fneeds p.f0 p.f3)) r) else 2
def fcheck (l : List PartS) : Int := if l.length > 256 then 3 else fchk 0 l
def triOK (t : TriS) : Bool := okTm (T t.f0) && (okTm (T t.f1) && okTm (T t.f2))
def patOK (t : TriS) : Bool := triOK t && (t.f0.f0 == 1 || t.f0.f0 == 4) && (t.f1.f0 == 1 || t.f1.f0 == 4) && !(t.f2.f0 == 0) && !(t.f2.f0 == 3)
def e02 (b : Bool) : Int := if b then 0 else 2
def basicOK (l : List TriS) : Bool := l.all patOK && decide (l.length ≤ 32)
def nmOK : List (List UInt8) → List (List UInt8) → Bool
  | _, [] => true
  | p, v :: r => okName v && !p.contains v && nmOK (p ++ [v]) r
def cellV (t : TermS) : Bool := okTm (T t) && !(t.f0 == 3) && !(t.f0 == 4)
def rowV (n : Nat) (row : List TermS) : Bool := row.length == n && row.all cellV
def tabV (vars : List ByteArray) (rows : List (List TermS)) : Bool := decide (vars.length ≤ 32) && (decide (rows.length ≤ 64) && (nmOK [] (TB vars) && rows.all (rowV vars.length)))
/-- short beside the fuel -/
def rowLt (n : Nat) (r : List TermS) : Prop := r.length < n ∧ ∀ t ∈ r, t.lt n
def opNeeds (kd : Int) : Int := if kd = 1 ∨ kd = 2 then 0 else if 7 ≤ kd ∧ kd ≤ 9 then 1 else if 3 ≤ kd ∧ kd ≤ 6 then 2 else -1
structure OpS.lt (n : Nat) (o : OpS) : Prop where
  a : o.f1.length < n
  b : ∀ t ∈ o.f1, t.lt n
  c : o.f2.f0.length < n
  d : ∀ s ∈ o.f2.f0, s.size < n
  e : o.f2.f1.length < n
  f : ∀ r ∈ o.f2.f1, rowLt n r
  g : o.f3.length < n
  h : ∀ p ∈ o.f3, p.lt n
  i : o.f4.size < n
def lastOK (o : OpS) : Bool :=
  if o.f0 = 1 then basicOK o.f1 else if o.f0 = 2 then tabV o.f2.f0 o.f2.f1 else if o.f0 = 8 then okName o.f4.data.toList else if o.f0 = 9 then okTm (tmOf 1 o.f4 ⟨#[]⟩ ⟨#[]⟩) else decide (0 ≤ opNeeds o.f0)
def formF (o : OpS) : Bool := o.f0 == 7 || o.f0 == 8 || (o.f0 == 5 && decide (0 < o.f3.length))
def formOK (fl : Bool) (o : OpS) : Bool := if fl = true then fcheck o.f3 == 0 else o.f3.length == 0
def silentB (o : OpS) : Bool := if o.f0 = 9 then false else if o.f5 = true then true else if o.f0 = 8 then false else !o.f4.data.toList.isEmpty
def bareB (o : OpS) : Bool := (!(o.f0 == 1) && decide (0 < o.f1.length)) || (!(o.f0 == 2) && decide (0 < o.f2.f0.length + o.f2.f1.length))
def opOK (o : OpS) : Bool := !bareB o && (!silentB o && (formOK (formF o) o && lastOK o))
/-! texts -/
def signL : List (List UInt8) := [[], [], [], [], [33], [45], [38, 38], [124, 124], [61], [33, 61], [60], [62], [60, 61], [62, 61], [43], [45], [42], [47], [83, 84, 82], [76, 65, 78, 71], [68, 65, 84, 65, 84, 89, 80, 69], [73, 83, 73, 82, 73], [73, 83, 76, 73, 84, 69, 82, 65, 76], [73, 83, 66, 76, 65, 78, 75], [83, 65, 77, 69, 84, 69, 82, 77], [73, 70], [67, 79, 65, 76, 69, 83, 67, 69]]
def sgnT (kd : Int) : List UInt8 := signL.getD kd.toNat []
def comA : List (List UInt8) → List UInt8
  | [] => []
  | x :: r => x ++ r.flatMap fun y => 32 :: 44 :: 32 :: y
def partT (p : PartS) (l : List (List UInt8)) : List UInt8 :=
  if p.f0 = 1 then ttext (T p.f1) else if p.f0 = 2 then 63 :: p.f2.data.toList else if p.f0 = 3 then [66, 79, 85, 78, 68, 32, 40, 32, 63] ++ p.f2.data.toList ++ [32, 41]
  else if p.f0 ≤ 5 then sgnT p.f0 ++ 32 :: l.getD 0 []
  else if p.f0 ≤ 17 then [40, 32] ++ l.getD 0 [] ++ [32] ++ sgnT p.f0 ++ [32] ++ l.getD 1 [] ++ [32, 41]
  else sgnT p.f0 ++ [32, 40, 32] ++ comA l ++ [32, 41]
def formP : List PartS → List (List UInt8) → List (List UInt8)
  | [], l => l
  | p :: r, l => formP r (l.take (l.length - (fneeds p.f0 p.f3).toNat) ++ [partT p (l.drop (l.length - (fneeds p.f0 p.f3).toNat))])
def formT (x : List PartS) : List UInt8 := (formP x []).getD 0 []
def undefT : List UInt8 := [85, 78, 68, 69, 70]
def ofT (t : Tm) : List UInt8 := if t.k = 0 then undefT else ttext t
def triT (t : TriS) : List UInt8 := 32 :: (ofT (T t.f0) ++ 32 :: (ofT (T t.f1) ++ 32 :: (ofT (T t.f2) ++ [32, 46])))
def basA (l : List TriS) : List UInt8 := 123 :: l.flatMap triT
def basT (l : List TriS) : List UInt8 := basA l ++ [32, 125]
def rowA (row : List TermS) : List UInt8 := row.flatMap fun t => 32 :: ofT (T t)
def rowT (row : List TermS) : List UInt8 := 32 :: 40 :: (rowA row ++ [32, 41])
def vrsA (vars : List ByteArray) : List UInt8 := [123, 32, 86, 65, 76, 85, 69, 83, 32, 40] ++ vars.flatMap fun v => 32 :: 63 :: v.data.toList
def tabA (vars : List ByteArray) (rows : List (List TermS)) : List UInt8 := vrsA vars ++ [32, 41, 32, 123] ++ rows.flatMap rowT
def tabT (vars : List ByteArray) (rows : List (List TermS)) : List UInt8 := tabA vars rows ++ [32, 125, 32, 125]
def sFilter : List UInt8 := [32, 70, 73, 76, 84, 69, 82, 32, 40, 32]
def sOpt : List UInt8 := [32, 79, 80, 84, 73, 79, 78, 65, 76, 32, 123, 32]
def opT (o : OpS) (l : List (List UInt8)) : List UInt8 :=
  if o.f0 = 1 then basT o.f1 else if o.f0 = 2 then tabT o.f2.f0 o.f2.f1
  else if o.f0 = 3 then [123, 32] ++ l.getD 0 [] ++ [32] ++ l.getD 1 [] ++ [32, 125]
  else if o.f0 = 4 then [123, 32] ++ l.getD 0 [] ++ [32, 85, 78, 73, 79, 78, 32] ++ l.getD 1 [] ++ [32, 125]
  else if o.f0 = 6 then [123, 32] ++ l.getD 0 [] ++ [32, 77, 73, 78, 85, 83, 32] ++ l.getD 1 [] ++ [32, 125]
  else if o.f0 = 5 then (if o.f3 = [] then [123, 32] ++ l.getD 0 [] ++ sOpt ++ l.getD 1 [] ++ [32, 125, 32, 125] else [123, 32] ++ l.getD 0 [] ++ sOpt ++ l.getD 1 [] ++ sFilter ++ formT o.f3 ++ [32, 41, 32, 125, 32, 125])
  else if o.f0 = 7 then [123, 32] ++ l.getD 0 [] ++ sFilter ++ formT o.f3 ++ [32, 41, 32, 125]
  else if o.f0 = 8 then [123, 32] ++ l.getD 0 [] ++ [32, 66, 73, 78, 68, 32, 40, 32] ++ formT o.f3 ++ [32, 65, 83, 32, 63] ++ o.f4.data.toList ++ [32, 41, 32, 125]
  else [123, 32, 83, 69, 82, 86, 73, 67, 69, 32] ++ (if o.f5 = true then [83, 73, 76, 69, 78, 84, 32] else []) ++ 60 :: o.f4.data.toList ++ [62, 32] ++ l.getD 0 [] ++ [32, 125]
def codeP : List OpS → List (List UInt8) → List (List UInt8)
  | [], l => l
  | o :: r, l => codeP r (l.take (l.length - (opNeeds o.f0).toNat) ++ [opT o (l.drop (l.length - (opNeeds o.f0).toNat))])
def codeT (c : List OpS) : List UInt8 := (codeP c []).getD 0 []

/-! names in scope -/
structure RS where
  S : List ByteArray
  fr : Int
  sv : Bool
def hasN (S : List ByteArray) (s : ByteArray) : Bool := S.any fun x => x.data.toList == s.data.toList
def vstepP (kd : Int) (x : ByteArray) (out : List ByteArray) : List ByteArray := if kd = 4 then (if (TB out).contains x.data.toList = true then out else out ++ [x]) else out
def varsOf (t : TriS) : List ByteArray := vstepP t.f2.f0 t.f2.f1 (vstepP t.f1.f0 t.f1.f1 (vstepP t.f0.f0 t.f0.f1 []))
def leafT : List TriS → List ByteArray → List ByteArray
  | [], O => O
  | t :: r, O => leafT r ((varsOf t).reverse ++ O)
def leaf2 (m : Nat) : List ByteArray → List ByteArray → List ByteArray
  | [], O => O
  | v :: r, O => leaf2 m r (List.replicate (m + 1) v ++ O)
def leafP (o : OpS) : List ByteArray := leaf2 o.f2.f1.length o.f2.f0 (leafT o.f1 [])
def oneL (kd : Int) (nm : ByteArray) (S : List ByteArray) : List ByteArray := if kd = 8 then nm :: S else S
def twoL (kd : Int) (S1 S2 : List ByteArray) : List ByteArray := if kd = 3 ∨ kd = 4 ∨ kd = 5 then S1 ++ S2 else S1
def resNamesP (o : OpS) : List RS → List ByteArray
  | [] => leafP o
  | [a] => oneL o.f0 o.f4 a.S
  | [a, b] => twoL o.f0 a.S b.S
  | _ => []
def resBad (o : OpS) (bad : Int) : List RS → Int
  | [a] => if hasN a.S o.f4 = true ∧ o.f0 = 8 then 6 else bad
  | _ => bad
def resFrom (i : Int) : List RS → Int
  | [] => i
  | a :: _ => a.fr
def newRS (i : Nat) (o : OpS) (nd : List RS) : RS := ⟨resNamesP o nd, resFrom i nd, o.f0 == 9 || nd.any RS.sv⟩
def resP : Nat → List OpS → List Int → List RS → Int → List Int × Int
  | _, [], out, l, bad => if l.length = 1 then (out, bad) else ([], 2)
  | i, o :: r, out, l, bad =>
    if opOK o = false then ([], 2) else if (l.length : Int) < opNeeds o.f0 then ([], 2) else
    if o.f0 = 9 ∧ (l.drop (l.length - (opNeeds o.f0).toNat)).any RS.sv = true then ([], 2) else
    resP (i + 1) r (out ++ [resFrom i (l.drop (l.length - (opNeeds o.f0).toNat))]) (l.take (l.length - (opNeeds o.f0).toNat) ++ [newRS i o (l.drop (l.length - (opNeeds o.f0).toNat))]) (resBad o bad (l.drop (l.length - (opNeeds o.f0).toNat)))
def resultsP (c : List OpS) : List Int × Int := if c.length > 128 then ([], 3) else resP 0 c [] [] 0

/-! rows that read as values -/
def RowsR {α : Type} (r : List DV → α → Prop) : RW → List α → Prop
  | [], [] => True
  | a :: l, x :: y => r a x ∧ RowsR r l y
  | _, _ => False
def slR {α : Type} (n : Nat) (r : List DV → α → Prop) (c : DV) (l : List α) : Prop := (c = NIL ∧ l = []) ∨ ∃ rows, c = .sl false n rows ∧ RowsR r rows l
def rTerm (row : List DV) (t : TermS) : Prop := row = eTerm t
def rTri (row : List DV) (t : TriS) : Prop := row = eTri t
def rPart (row : List DV) (t : PartS) : Prop := row = ePart t
def rStr (row : List DV) (s : ByteArray) : Prop := row = [S s]
def rRow (row : List DV) (r : List TermS) : Prop := ∃ c, row = [c] ∧ slR 4 rTerm c r
def rOp (row : List DV) (o : OpS) : Prop := ∃ a b c d, row = [I o.f0, a, b, c, d, S o.f4, B o.f5] ∧ slR 12 rTri a o.f1 ∧ slR 1 rStr b o.f2.f0 ∧ slR 1 rRow c o.f2.f1 ∧ slR 7 rPart d o.f3

theorem rows_map {α:Type} {r:List DV→α→Prop} {e:α→List DV} (h: ∀ x,r (e x) x): ∀ l:List α,RowsR r (l.map e) l
 | []=>trivial
 |x::l=>⟨h x,rows_map h l⟩
theorem rows_term (l:List TermS):RowsR rTerm (l.map eTerm) l:=rows_map (r:=rTerm) (fun _=>rfl) l
theorem rows_tri (l:List TriS):RowsR rTri (l.map eTri) l:=rows_map (r:=rTri) (fun _=>rfl) l
theorem rows_part (l:List PartS):RowsR rPart (l.map ePart) l:=rows_map (r:=rPart) (fun _=>rfl) l
theorem rows_str (l:List ByteArray):RowsR rStr (srow l) l:=rows_map (r:=rStr) (e:=fun s=> [S s]) (fun _=>rfl) l
theorem rRow_e (r:List TermS):rRow (eRow r) r:=⟨_,rfl,.inr ⟨_,rfl,rows_term r⟩⟩
theorem rows_row (l:List (List TermS)):RowsR rRow (l.map eRow) l:=rows_map rRow_e l
theorem rOp_e (o:OpS):rOp (eOp o) o:=⟨_,_,_,_,rfl,.inr ⟨_,rfl,rows_tri _⟩,.inr ⟨_,rfl,rows_str _⟩,.inr ⟨_,rfl,rows_row _⟩,.inr ⟨_,rfl,rows_part _⟩⟩
theorem rows_op (l:List OpS):RowsR rOp (l.map eOp) l:=rows_map rOp_e l
/-! the values that rows read as -/
def unRows {α : Type} (u : List DV → Option α) : RW → Option (List α)
  | [] => some []
  | a :: l => match u a, unRows u l with | some x, some y => some (x :: y) | _, _ => none
def unSl {α : Type} (n : Nat) (u : List DV → Option α) : DV → Option (List α)
  | .v (.slice none 0 0) => some []
  | .sl false m rows => if m = n then unRows u rows else none
  | _ => none
def unTerm : List DV → Option TermS
  | [.v (.int .i64 a), .v (.string b), .v (.string c), .v (.string d)] => some ⟨a, b, c, d⟩
  | _ => none
def unTri : List DV → Option TriS
  | [.v (.int .i64 a), .v (.string b), .v (.string c), .v (.string d), .v (.int .i64 e), .v (.string f), .v (.string g), .v (.string h), .v (.int .i64 i), .v (.string j), .v (.string k), .v (.string l)] => some ⟨⟨a, b, c, d⟩, ⟨e, f, g, h⟩, ⟨i, j, k, l⟩⟩
  | _ => none
def unPart : List DV → Option PartS
  | [.v (.int .i64 a), .v (.int .i64 b), .v (.string c), .v (.string d), .v (.string e), .v (.string f), .v (.int .i64 g)] => some ⟨a, ⟨b, c, d, e⟩, f, g⟩
  | _ => none
def unStr : List DV → Option ByteArray
  | [.v (.string s)] => some s
  | _ => none
def unRow : List DV → Option (List TermS)
  | [c] => unSl 4 unTerm c
  | _ => none
def unOp : List DV → Option OpS
  | [.v (.int .i64 k), a, b, c, d, .v (.string s), .v (.bool p)] => match unSl 12 unTri a, unSl 1 unStr b, unSl 1 unRow c, unSl 7 unPart d with
    | some x, some y, some z, some w => some ⟨k, x, ⟨y, z⟩, w, s, p⟩
    | _, _, _, _ => none
  | _ => none
section
variable {α : Type} {u : List DV → Option α} {r : List DV → α → Prop}
theorem unRows_of (h: ∀ a x,u a=some x→r a x): ∀ {rows:RW} {l:List α},unRows u rows=some l→RowsR r rows l
 | [],l,e=>by cases e;trivial
 |a::rows,l,e=>by
  unfold unRows at e;split at e
  ·rename_i x y h1 h2;cases e;exact⟨h _ _ h1,unRows_of h h2⟩
  cases e
theorem unRows_mk (h: ∀ a x,r a x→u a=some x): ∀ {rows:RW} {l:List α},RowsR r rows l→unRows u rows=some l
 | [],[],_=>rfl
 |a::rows,x::l,e=>by unfold unRows;rw[h _ _ e.1,unRows_mk h e.2]
 | [],_::_,e=>e.elim
 |_::_,[],e=>e.elim
theorem unSl_of (h: ∀ a x,u a=some x→r a x) {n:Nat} {c:DV} {l:List α} (e:unSl n u c=some l):slR n r c l:=by
 unfold unSl at e;split at e
 ·cases e;exact .inl ⟨rfl,rfl⟩
 ·split at e
  ·rename_i hm;subst hm;exact .inr ⟨_,rfl,unRows_of h e⟩
  cases e
 cases e
theorem unSl_mk (h: ∀ a x,r a x→u a=some x) {n:Nat} {c:DV} {l:List α} (e:slR n r c l):unSl n u c=some l:=by
 rcases e with ⟨rfl,rfl⟩|⟨rows,rfl,e⟩
 ·rfl
 unfold unSl;simp only[if_true];exact unRows_mk h e
end
theorem unTerm_of (a:List DV) (x:TermS) (h:unTerm a=some x):rTerm a x:=by
 unfold unTerm at h;split at h
 ·cases h;rfl
 cases h
theorem unTri_of (a:List DV) (x:TriS) (h:unTri a=some x):rTri a x:=by
 unfold unTri at h;split at h
 ·cases h;rfl
 cases h
theorem unPart_of (a:List DV) (x:PartS) (h:unPart a=some x):rPart a x:=by
 unfold unPart at h;split at h
 ·cases h;rfl
 cases h
theorem unStr_of (a:List DV) (x:ByteArray) (h:unStr a=some x):rStr a x:=by
 unfold unStr at h;split at h
 ·cases h;rfl
 cases h
theorem unRow_of (a:List DV) (x:List TermS) (h:unRow a=some x):rRow a x:=by
 unfold unRow at h;split at h
 ·exact⟨_,rfl,unSl_of unTerm_of h⟩
 cases h
theorem unOp_of (a:List DV) (x:OpS) (h:unOp a=some x):rOp a x:=by
 unfold unOp at h;split at h
 ·split at h
  ·rename_i h1 h2 h3 h4;cases h;exact⟨_,_,_,_,rfl,unSl_of unTri_of h1,unSl_of unStr_of h2,unSl_of unRow_of h3,unSl_of unPart_of h4⟩
  cases h
 cases h
theorem unTerm_mk (a:List DV) (x:TermS) (h:rTerm a x):unTerm a=some x:=by cases h;rfl
theorem unTri_mk (a:List DV) (x:TriS) (h:rTri a x):unTri a=some x:=by cases h;rfl
theorem unPart_mk (a:List DV) (x:PartS) (h:rPart a x):unPart a=some x:=by cases h;rfl
theorem unStr_mk (a:List DV) (x:ByteArray) (h:rStr a x):unStr a=some x:=by cases h;rfl
theorem unRow_mk (a:List DV) (x:List TermS) (h:rRow a x):unRow a=some x:=by
 obtain⟨c,rfl,h⟩:=h;exact unSl_mk unTerm_mk h
theorem unOp_mk (a:List DV) (x:OpS) (h:rOp a x):unOp a=some x:=by
 obtain⟨a,b,c,d,rfl,h1,h2,h3,h4⟩:=h;unfold unOp;simp only[unSl_mk unTri_mk h1,unSl_mk unStr_mk h2,unSl_mk unRow_mk h3,unSl_mk unPart_mk h4]
end Go.Proofs.YtcfoebkbahpnaaaGreat.Ab
