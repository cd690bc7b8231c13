/- The pure reading of a program's functions: values without memory, and what each operation makes of them. -/
import Derived.Orders
import Derived.LoopN
import Derived.Below
import Derived.KernelRfl
set_option linter.unusedVariables false
namespace Go.Proofs.YtcfoebkbahpnaaaGreat.Ab
open Go

/-- Values without memory: a slice is its rows of cells; own: may it be appended to in place? -/
inductive DV where
  | v (x : Value)
  | ag (cs : List DV)
  | tu (cs : List DV)
  | sl (own : Bool) (sz : Nat) (rows : List (List DV))
  deriving Inhabited

/-- What a slot holds: a value; a pointer to object k, cell off; a pointer to cells that nobody writes; nothing known. -/
inductive AV where
  | d (x : DV)
  | pt (k off : Nat)
  | el (cs : List DV)
  | un
  deriving Inhabited

def DV.cells : DV → List DV
  | .ag cs => cs
  | x => [x]
def DV.dis1 : DV → DV
  | .sl _ n r => .sl false n r
  | x => x
def DV.dis : DV → DV
  | .tu cs => .tu (cs.map DV.dis1)
  | .sl _ n r => .sl false n r
  | x => x
def AV.dis : AV → AV
  | .d x => .d x.dis
  | x => x

abbrev Fr := Nat → AV
abbrev Ob := List (Option (List DV))
def Fr.put (fr : Fr) (t : Nat) (x : AV) : Fr := fun u => bif Nat.beq t u then x else fr u
def Fr.ofL : List (Nat × AV) → Fr
  | [] => fun _ => .un
  | (t, x) :: r => fun u => bif Nat.beq t u then x else Fr.ofL r u

structure FC where
  live : List Nat
  bx : List Nat
  lp : List (Nat × List Nat)
  bl : List (Nat × List Nat)
  rs : List Nat
  jn : List (Nat × (List Nat × List Nat))
  ro : List Nat
structure Cfg where
  P : Program
  fc : FuncId → FC
  ownp : FuncId → List Nat
  eqs : TypeId → Bool
  disr : FuncId → Bool

structure Delta where
  sl : List (Nat × AV)
  ob : List (Nat × List DV)
  rd : List Nat

def mem (n : Nat) : List Nat → Bool
  | [] => false
  | m :: r => bif Nat.beq m n then true else mem n r
def idxOf (n : Nat) : List Nat → Option Nat
  | [] => none
  | m :: r => bif Nat.beq m n then some 0 else (idxOf n r).map (· + 1)

def allOne : List Value → Bool
  | [] => true
  | x :: r => x.oneCell' && allOne r
def ofV : Value → Option DV
  | .agg arr => bif allOne arr.toList then some (.ag (arr.toList.map .v)) else none
  | .tuple _ => none
  | x => some (.v x)
def evA (fr : Fr) : Operand → AV
  | .tmp t => fr t
  | .const v => match ofV v with | some x => .d x | none => .un
  | .func f => .d (.v (.func (.func f) #[] #[]))
  | .global _ => .un

/-- Does an operation of the region want the slice in slot d as its own (append's first; a parameter that the callee appends to)? -/
def wants (G : Cfg) (rs : List Nat) (d : Nat) : List Oper → Bool
  | [] => false
  | o :: r =>
    (match o.op with
     | .call { callee := .builtin .append, args := as, .. } => (match as.toList with | .tmp t :: _ => Nat.beq t d | _ => false)
     | .call { callee := .value (.func f), args := as, .. } => (G.ownp f).any fun i => (match as.toList[i]? with | some (.tmp t) => Nat.beq t d | _ => false)
     | .assign (.tmp t) => Nat.beq t d && (match o.dst with | some u => mem u rs | none => false) && (match G.P.underlying o.type with | some (.slice _) => true | _ => false)
     | _ => false) || wants G rs d r

/-- The slot that an operand names passes its slice on, if it is scratch or if the one that takes it wants it. -/
def takes (G : Cfg) (c : FC) (ops : List Oper) (dst : Option Tmp) (t : Nat) : Bool :=
  !mem t c.live || (match dst with | some d => wants G c.ro d ops | none => false)

/-- A copy into slot dst. -/
def copyA (G : Cfg) (c : FC) (ops : List Oper) (dst : Option Tmp) (fr : Fr) (x : Operand) : Option Delta :=
  match dst with
  | none => none
  | some d =>
    match x with
    | .tmp t => bif takes G c ops dst t && !Nat.beq t d then some ⟨[(d, fr t), (t, (fr t).dis)], [], []⟩ else some ⟨[(d, (fr t).dis)], [], []⟩
    | x => some ⟨[(d, evA fr x)], [], []⟩

def ret1 (dst : Option Tmp) (x : AV) : Option Delta :=
  match dst with
  | some d => some ⟨[(d, x)], [], []⟩
  | none => some ⟨[], [], []⟩

def retD (dst : Option Tmp) (x : DV) : Option Delta := ret1 dst (.d x)

def isAggT (P : Program) (t : TypeId) : Option Bool :=
  match P.underlying t with
  | some (.struct _) | some (.array _ _) => some true
  | some _ => some false
  | none => none
def sizeT (P : Program) (t : TypeId) : Option Nat := (P.info? t).map (·.size)
def zeroT (P : Program) (t : TypeId) : Option DV := ((P.info? t).bind (·.zero)).bind ofV

/-- What is read of a type t in cells, from the first one on. -/
def partA (P : Program) (t : TypeId) (cs : List DV) : Option DV :=
  match isAggT P t, sizeT P t with
  | some true, some n => bif Nat.ble n cs.length then some (.ag ((cs.take n).map DV.dis1)) else none
  | some false, some 1 => match cs with | x :: _ => some x.dis1 | [] => none
  | _, _ => none

def setAt : List DV → Nat → List DV → Option (List DV)
  | cs, 0, [] => some cs
  | _ :: cs, 0, x :: xs => (setAt cs 0 xs).map (x :: ·)
  | c :: cs, n + 1, xs => (setAt cs n xs).map (c :: ·)
  | [], _, _ => none

/-- The cells of a struct or an array with its parts laid in. -/
def fillA (place : Nat → Option (Nat × Nat)) : List (Nat × DV) → List DV → Option (List DV)
  | [], cs => some cs
  | (i, x) :: r, cs =>
    match place i with
    | none => none
    | some (off, n) => bif Nat.beq x.cells.length n then (match setAt cs off (x.cells.map DV.dis1) with | some cs' => fillA place r cs' | none => none) else none

def dvs (fr : Fr) : List (Nat × Operand) → Option (List (Nat × DV))
  | [] => some []
  | (i, x) :: r => match evA fr x, dvs fr r with | .d (.tu _), _ => none | .d y, some l => some ((i, y) :: l) | _, _ => none

def placesA (P : Program) : List Field → Option (List (Nat × Nat))
  | [] => some []
  | f :: r => match sizeT P f.type, placesA P r with | some n, some l => some ((f.offset, n) :: l) | _, _ => none
def buildA (P : Program) (t : TypeId) (parts : List (Nat × DV)) : Option DV :=
  match zeroT P t, P.underlying t with
  | some (.ag z), some (.struct fs) =>
    match placesA P fs.toList with
    | some pl => (fillA (fun i => pl[i]?) parts z).map .ag
    | none => none
  | some (.ag z), some (.array _ e) =>
    (sizeT P e).bind fun n => (fillA (fun i => some (i * n, n)) parts z).map .ag
  | _, _ => none

def chunk (n : Nat) : Nat → List DV → List (List DV)
  | 0, _ => []
  | k + 1, l => l.take n :: chunk n k (l.drop n)
def repl : Nat → List DV → List DV
  | 0, _ => []
  | k + 1, l => l ++ repl k l

def buildSliceA (P : Program) (t : TypeId) (len : Nat) (parts : List (Nat × DV)) : Option DV :=
  match P.underlying t with
  | some (.slice e) =>
    match sizeT P e, zeroT P e with
    | some (n + 1), some z =>
      bif Nat.beq z.cells.length (n + 1) && Nat.ble len 4096 && Nat.ble n 63 then
      (fillA (fun i => some (i * (n + 1), n + 1)) parts (repl len z.cells)).map fun cs => .sl true (n + 1) (chunk (n + 1) len cs)
      else none
    | _, _ => none
  | _ => none

/-- A slice's rows: nil has none. -/
def asSl : DV → Option (Bool × Nat × List (List DV))
  | .sl o n r => some (o, n, r)
  | .v (.slice none 0 0) => some (true, 0, [])
  | _ => none

def asInt : DV → Option Int
  | .v (.int .i64 n) => some n
  | _ => none

def eqL : List UInt8 → List UInt8 → Bool
  | [], [] => true
  | x :: r, y :: s => Nat.beq x.toNat y.toNat && eqL r s
  | _, _ => false
def strEq (a b : ByteArray) : Bool := eqL a.data.toList b.data.toList

inductive CK where
  | i64 | u8 | str | bool | sl (n : Nat) | any
def kindT (P : Program) (t : TypeId) : CK :=
  match P.underlying t with
  | some (.int .i64) => .i64
  | some (.int .u8) => .u8
  | some .string => .str
  | some .bool => .bool
  | some (.slice e) => match sizeT P e with | some n => .sl n | none => .any
  | _ => .any
def kindsT (P : Program) : Nat → TypeId → List CK
  | 0, _ => [.any]
  | d + 1, t => match P.underlying t with
    | some (.struct fs) => fs.toList.foldr (fun f l => kindsT P d f.type ++ l) []
    | some (.array n e) => (List.replicate n (kindsT P d e)).flatten
    | _ => [kindT P t]
def kind1 : CK → DV → Bool
  | .i64, .v (.int .i64 _) => true
  | .u8, .v (.int .u8 _) => true
  | .str, .v (.string _) => true
  | .bool, .v (.bool _) => true
  | _, _ => false
def kinded : List CK → List DV → Bool
  | [], [] => true
  | k :: ks, c :: cs => kind1 k c && kinded ks cs
  | _, _ => false
def eqCells : List DV → List DV → Option Bool
  | [], [] => some true
  | .v (.int k a) :: xs, .v (.int k' b) :: ys => bif decide (k = k') then (eqCells xs ys).map (decide (a = b) && ·) else none
  | .v (.string a) :: xs, .v (.string b) :: ys => (eqCells xs ys).map (strEq a b && ·)
  | .v (.bool a) :: xs, .v (.bool b) :: ys => (eqCells xs ys).map ((a == b) && ·)
  | _, _ => none

def eqA (G : Cfg) (t : TypeId) : DV → DV → Option Bool
  | .v (.int k a), .v (.int k' b) => bif decide (k = k') then some (decide (a = b)) else none
  | .v (.string a), .v (.string b) => some (strEq a b)
  | .v (.bool a), .v (.bool b) => match G.P.underlying t with | some .bool => some (a == b) | _ => none
  | .ag xs, .ag ys => bif G.eqs t && (kinded (kindsT G.P 8 t) xs && kinded (kindsT G.P 8 t) ys) then eqCells xs ys else none
  | _, _ => none

def binA (G : Cfg) (op : BinOp) (t : TypeId) (x y : DV) : Option DV :=
  match op with
  | .eql => (eqA G t x y).map fun b => .v (.bool b)
  | .neq => (eqA G t x y).map fun b => .v (.bool (!b))
  | _ =>
  match x, y with
  | .v (.int k a), .v (.int k' b) =>
    bif decide (k = k') then
      match op with
      | .add => some (.v (.int k (k.wrap (a + b))))
      | .sub => some (.v (.int k (k.wrap (a - b))))
      | .mul => some (.v (.int k (k.wrap (a * b))))
      | .lss => some (.v (.bool (decide (a < b))))
      | .leq => some (.v (.bool (decide (a ≤ b))))
      | .gtr => some (.v (.bool (decide (b < a))))
      | .geq => some (.v (.bool (decide (b ≤ a))))
      | _ => none
    else none
  | .v (.string a), .v (.string b) =>
    match op with
    | .add => bif Nat.ble (a.size + b.size) 9223372036854775807 then some (.v (.string (a ++ b))) else none
    | _ => none
  | _, _ => none

def loA : Option DV → Option Int
  | none => some 0
  | some x => asInt x
def hiA (n : Nat) : Option DV → Option Int
  | none => some n
  | some x => asInt x
def sliceA (P : Program) (t : TypeId) (x : DV) (lo hi : Option DV) : Option DV :=
  match P.underlying t with
  | some .string =>
    match x with
    | .v (.string s) =>
      match hiA s.size hi, loA lo with
      | some h, some l => bif decide (0 ≤ l) && decide (l ≤ h) && decide (h ≤ s.size) then some (.v (.string (s.extract l.toNat h.toNat))) else none
      | _, _ => none
    | _ => none
  | some (.slice e) =>
    match asSl x, sizeT P e with
    | some (_, n, r), some m =>
      bif Nat.beq n m || Nat.beq n 0 then
        match hiA r.length hi, loA lo with
        | some h, some l => bif decide (0 ≤ l) && decide (l ≤ h) && decide (h ≤ r.length) then some (.sl false n ((r.drop l.toNat).take (h.toNat - l.toNat))) else none
        | _, _ => none
      else none
    | _, _ => none
  | _ => none

def bytesOf : List (List DV) → Option (List UInt8)
  | [] => some []
  | [.v (.int .u8 b)] :: r => (bytesOf r).map (b.toNat.toUInt8 :: ·)
  | _ => none

def toD : AV → Option DV
  | .d x => some x
  | _ => none

/-- append -/
def appA (P : Program) (t : TypeId) (x y : DV) : Option DV :=
  match P.underlying t with
  | some (.slice e) =>
    match sizeT P e, (P.info? e).map (·.bytes), asSl x, asSl y with
    | some (n + 1), some b, some (true, m, r), some (_, m', r') =>
      bif (match zeroT P e with | some z => Nat.beq z.cells.length (n + 1) | none => false) && (Nat.beq m (n + 1) || Nat.beq m 0) && (Nat.beq m' (n + 1) || Nat.beq m' 0) && Nat.ble ((r.length + r'.length) * b) 140737488355328 && Nat.ble (r.length + r'.length) 4611686018427387904 then
        some (.sl true (n + 1) (r ++ r'.map (·.map DV.dis1))) else none
    | _, _, _, _ => none
  | _ => none

/-- The objects that a call's arguments point to, and the arguments with the callee's numbers for them. -/
def passA : List AV → Nat → List AV × List Nat
  | [], _ => ([], [])
  | .pt k off :: r, n => let q := passA r (n + 1); (.pt n off :: q.1, k :: q.2)
  | x :: r, n => let q := passA r n; (x :: q.1, q.2)
def gets (ob : Ob) : List Nat → Option (List (List DV))
  | [] => some []
  | k :: r => match ob[k]?, gets ob r with | some (some c), some l => some (c :: l) | _, _ => none
def nodup : List Nat → Bool
  | [] => true
  | k :: r => !mem k r && nodup r

def optD (fr : Fr) : Option Operand → Option (Option DV)
  | none => some none
  | some x => match evA fr x with | .d y => some (some y) | _ => none

/-- The scratch slots whose slices a call takes (a parameter that the callee appends to). -/
def argTakes (l : List Nat) : List Operand → Nat → Fr → List (Nat × AV)
  | [], _, _ => []
  | .tmp t :: r, i, fr => bif mem i l then (t, (fr t).dis) :: argTakes l r (i + 1) fr else argTakes l r (i + 1) fr
  | _ :: r, i, fr => argTakes l r (i + 1) fr
def disArgs (l : List Nat) : List AV → Nat → List AV
  | [], _ => []
  | x :: r, i => (bif mem i l then x else x.dis) :: disArgs l r (i + 1)
def tmpsOf : List Operand → List Nat
  | [] => []
  | .tmp t :: r => t :: tmpsOf r
  | _ :: r => tmpsOf r

abbrev R := DV × List (List DV)
/-- What is known of functions: the arguments, the objects that they point to, and what is done with what comes back. -/
abbrev Env := FuncId → List AV → List (List DV) → (R → Option R) → Option R

def czK (own : Bool) : List CK → List DV → List DV
  | [], cs => cs
  | _, [] => []
  | k :: ks, c :: cs => (match k, c with | .sl n, .v (.slice none 0 0) => .sl own n [] | _, c => c) :: czK own ks cs
structure Call1 where
  args : List AV
  keys : List Nat
  objs : List (List DV)
  take : List (Nat × AV)

/-- A nil slice as one without rows. -/
def cz (P : Program) (t : TypeId) (x : DV) : DV :=
  match x with
  | .v (.slice none 0 0) => (match P.underlying t with
    | some (.slice e) => (match sizeT P e with | some n => .sl true n [] | none => x)
    | _ => x)
  | x => x
def czA (P : Program) (t : TypeId) : AV → AV
  | .d x => .d (cz P t x)
  | x => x
/-- The same, in its cells too. -/
def czX (P : Program) (t : TypeId) (x : DV) : DV := match cz P t x with | .ag cs => .ag (czK false (kindsT P 8 t) cs) | y => y
def czXA (P : Program) (t : TypeId) : AV → AV
  | .d x => .d (czX P t x)
  | x => x
def czArgs (P : Program) : List AV → List TypeId → List AV
  | x :: r, t :: ts => czXA P t x :: czArgs P r ts
  | l, _ => l
def czTs (P : Program) : List DV → List TypeId → List DV
  | x :: r, t :: ts => czX P t x :: czTs P r ts
  | l, _ => l
def czR (P : Program) (ts : List TypeId) : DV → DV
  | .tu l => .tu (czTs P l ts)
  | x => match ts with | [t] => czX P t x | _ => x
def callIn (G : Cfg) (f : FuncId) (as : List Operand) (ts : List TypeId) (fr : Fr) (ob : Ob) : Option Call1 :=
  let p := passA (czArgs G.P (disArgs (G.ownp f) (as.map (evA fr)) 0) ts) 0
  bif nodup p.2 && nodup (tmpsOf as) then (gets ob p.2).map fun cs => ⟨p.1, p.2, cs, argTakes (G.ownp f) as 0 fr⟩ else none

def callOut (dst : Option Tmp) (c : Call1) (r : R) : Option Delta :=
  bif Nat.beq r.2.length c.keys.length then
    some ⟨c.take ++ (match dst with | some d => [(d, .d r.1)] | none => []), c.keys.zip r.2, c.keys⟩
  else none

def extractA (c : FC) (dst : Option Tmp) (fr : Fr) (x : Operand) (ix : Nat) : Option Delta :=
  match dst, x with
  | some d, .tmp t =>
    match fr t with
    | .d (.tu cs) => match cs[ix]? with
      | some (.tu _) => none
      | some y => bif Nat.beq t d then none else bif mem t c.live then some ⟨[(d, .d y.dis1)], [], []⟩ else some ⟨[(d, .d y), (t, .d (.tu (cs.set ix y.dis1)))], [], []⟩
      | none => none
    | _ => none
  | _, _ => none

def wantsO (G : Cfg) (rs : List Nat) (dst : Option Tmp) (ops : List Oper) : Bool :=
  match dst with
  | some d => wants G rs d ops
  | none => false
def loadA (G : Cfg) (rs : List Nat) (ops : List Oper) (dst : Option Tmp) (t : TypeId) (a : AV) (ob : Ob) : Option Delta :=
  match a with
  | .el cs => (partA G.P t cs).bind (retD dst)
  | .pt k off =>
    match ob[k]? with
    | some (some cs) =>
      bif wantsO G rs dst ops then
        match isAggT G.P t, sizeT G.P t, cs[off]?, dst with
        | some false, some 1, some x, some d => some ⟨[(d, .d x)], [(k, cs.set off x.dis1)], [k]⟩
        | _, _, _, _ => none
      else ((partA G.P t (cs.drop off)).bind (retD dst)).map fun q => { q with rd := [k] }
    | _ => none
  | _ => none

def storeA (G : Cfg) (c : FC) (t : TypeId) (a : AV) (x : Operand) (fr : Fr) (ob : Ob) : Option Delta :=
  match a, evA fr x with
  | .pt k off, .d y =>
    match ob[k]?, sizeT G.P t with
    | some (some cs), some n =>
      bif Nat.beq y.cells.length n then
        match y, x with
        | .tu _, _ => none
        | .sl o m r, .tmp s => bif mem s c.live then (setAt cs off [.sl false m r]).map fun cs' => ⟨[], [(k, cs')], [k]⟩
            else (setAt cs off [.sl o m r]).map fun cs' => ⟨[(s, .d (.sl false m r))], [(k, cs')], [k]⟩
        | y, _ => (setAt cs off (czK true (kindsT G.P 8 t) (y.cells.map DV.dis1))).map fun cs' => ⟨[], [(k, cs')], [k]⟩
      else none
    | _, _ => none
  | _, _ => none

def newA (c : FC) (n0 : Nat) (ks : List CK) (dst : Option Tmp) (x : DV) (ob : Ob) : Option Delta :=
  match dst with
  | none => none
  | some d =>
    match idxOf d c.bx with
    | none => none
    | some i =>
      match ob[n0 + i]? with
      | some none => some ⟨[(d, .pt (n0 + i) 0)], [(n0 + i, czK true ks (x.cells.map DV.dis1))], [n0 + i]⟩
      | _ => none

def fieldAddrA (P : Program) (t : TypeId) (a : AV) (f : Nat) : Option AV :=
  match P.underlying t with
  | some (.struct fs) =>
    match fs[f]? with
    | some fd =>
      match sizeT P fd.type with
      | some (_ + 1) =>
        match a with
        | .pt k off => some (.pt k (off + fd.offset))
        | .el cs => bif Nat.ble fd.offset cs.length then some (.el (cs.drop fd.offset)) else none
        | _ => none
      | _ => none
    | none => none
  | _ => none

def indexAddrA (P : Program) (t : TypeId) (a : AV) (i : Int) : Option AV :=
  match P.underlying t with
  | some (.slice e) =>
    match a, sizeT P e with
    | .d x, some n =>
      match asSl x with
      | some (_, m, r) => bif decide (0 ≤ i) && decide (i < r.length) && Nat.beq m n then (r[i.toNat]?).map .el else none
      | none => none
    | _, _ => none
  | some (.array len e) =>
    match a, sizeT P e with
    | .pt k off, some n => bif decide (0 ≤ i) && decide (i < len) then some (.pt k (off + i.toNat * n)) else none
    | _, _ => none
  | _ => none

def fieldA (P : Program) (t : TypeId) (x : DV) (f : Nat) : Option DV :=
  match P.underlying t, x with
  | some (.struct fs), .ag cs =>
    match fs[f]? with
    | some fd => partA P fd.type (cs.drop fd.offset)
    | none => none
  | _, _ => none

def indexA (P : Program) (t : TypeId) (x : DV) (i : Int) : Option DV :=
  match P.underlying t, x with
  | some (.array len e), .ag cs =>
    match sizeT P e with
    | some n => bif decide (0 ≤ i) && decide (i < len) then partA P e (cs.drop (i.toNat * n)) else none
    | none => none
  | some .string, .v (.string s) => bif decide (0 ≤ i) && decide (i < s.size) then some (.v (.int .u8 (s.data.toList.getD i.toNat 0).toNat)) else none
  | _, _ => none

def lenA (P : Program) (t : TypeId) (x : DV) : Option DV :=
  match P.underlying t, x with
  | some .string, .v (.string s) => some (.v (.int .i64 s.size))
  | some (.slice _), x => (asSl x).map fun p => .v (.int .i64 p.2.2.length)
  | some (.array n _), _ => some (.v (.int .i64 n))
  | _, _ => none

def pickA (b : Bool) (x y : AV) : AV :=
  match x, y with
  | .d (.v (.bool p)), .d (.v (.bool q)) => .d (.v (.bool (bif b then p else q)))
  | x, y => bif b then x.dis else y.dis

def runA (G : Cfg) (c : FC) (n0 : Nat) (ops : List Oper) (o : Oper) (fr : Fr) (ob : Ob) : Option Delta :=
  match o.op with
  | .move x | .assign x => copyA G c ops o.dst fr x
  | .pick cnd x y => match evA fr cnd with
    | .d (.v (.bool b)) => ret1 o.dst (pickA b (evA fr x) (evA fr y))
    | _ => none
  | .alloc t => (zeroT G.P t).bind fun z => newA c n0 (kindsT G.P 8 t) o.dst z ob
  | .box t x => match evA fr x with | .d (.tu _) => none | .d y => newA c n0 (kindsT G.P 8 t) o.dst y ob | _ => none
  | .build t ps => (dvs fr ps.toList).bind fun l => (buildA G.P t l).bind (retD o.dst)
  | .buildSlice t len ps => (dvs fr ps.toList).bind fun l => (buildSliceA G.P t len l).bind (retD o.dst)
  | .load t a => loadA G c.ro ops o.dst t (evA fr a) ob
  | .store t a x => match o.dst with | none => storeA G c t (evA fr a) x fr ob | some _ => none
  | .nilCheck x => match evA fr x with
    | .pt k off => ret1 o.dst (.pt k off)
    | .el cs => ret1 o.dst (.el cs)
    | _ => none
  | .binOp op t x y _ => match evA fr x, evA fr y with | .d a, .d b => (binA G op t a b).bind (retD o.dst) | _, _ => none
  | .unOp .not _ x => match evA fr x with | .d (.v (.bool b)) => retD o.dst (.v (.bool (!b))) | _ => none
  | .unOp .neg _ x => match evA fr x with | .d (.v (.int .i64 n)) => retD o.dst (.v (.int .i64 (IntKind.i64.wrap (-n)))) | _ => none
  | .convert s d x => match G.P.underlying s, G.P.underlying d, evA fr x with
    | some _, some (.int k), .d (.v (.int _ n)) => retD o.dst (.v (.int k (k.wrap n)))
    | some (.slice e), some .string, .d x => match G.P.underlying e, asSl x with
      | some (.int .u8), some (_, _, r) => (bytesOf r).bind fun l => retD o.dst (.v (.string ⟨l.toArray⟩))
      | _, _ => none
    | _, _, _ => none
  | .slice t x lo hi none => match evA fr x, optD fr lo, optD fr hi with
    | .d a, some l, some h => (sliceA G.P t a l h).bind (retD o.dst)
    | _, _, _ => none
  | .fieldAddr t x f => (fieldAddrA G.P t (evA fr x) f).bind (ret1 o.dst)
  | .field t x f => match evA fr x with | .d a => (fieldA G.P t a f).bind (retD o.dst) | _ => none
  | .indexAddr t x i => match evA fr i with | .d (.v (.int _ n)) => (indexAddrA G.P t (evA fr x) n).bind (ret1 o.dst) | _ => none
  | .index t x i => match evA fr x, evA fr i with | .d a, .d (.v (.int _ n)) => (indexA G.P t a n).bind (retD o.dst) | _, _ => none
  | .extract x ix => extractA c o.dst fr x ix
  | .call { callee := .builtin .len, args := as, argTypes := ts } => match as.toList, ts.toList with
    | [x], [t] => match evA fr x with | .d a => (lenA G.P t a).bind (retD o.dst) | _ => none
    | _, _ => none
  | .call { callee := .builtin .append, args := as, argTypes := ts } => match as.toList, ts.toList with
    | [.tmp s, y], [t, t'] => match fr s, evA fr y, G.P.underlying t' with
      | .d a, .d b, some (.slice _) => match o.dst with
        | some d => bif Nat.beq s d then none else (appA G.P t a b).map fun r => ⟨[(s, .d a.dis), (d, .d r)], [], []⟩
        | none => none
      | _, _, _ => none
    | _, _ => none
  | _ => none

def undefA (dst : Option Tmp) : Delta := ⟨match dst with | some d => [(d, .d (.tu []))] | none => [], [], []⟩

/-- Is the operation wanted? (none: that is not known.) -/
def wantA (ops : List Oper) (o : Oper) (fr : Fr) : Option Bool :=
  match o.guard with
  | none => some true
  | some (j, want) =>
    match (ops[j]?).bind (·.dst) with
    | some d => match fr d with
      | .d (.v (.bool b)) => some (b == want)
      | .d (.tu []) => some false
      | _ => none
    | none => none

def putL (fr : Fr) : List (Nat × AV) → Fr
  | [] => fr
  | (t, x) :: r => putL (fr.put t x) r
def setL (ob : Ob) : List (Nat × List DV) → Ob
  | [] => ob
  | (k, x) :: r => setL (ob.set k (some x)) r

/-! Reading cells whose kinds are known, with what is done then. -/
def i64C (c : DV) (K : Int → Option R) : Option R := match c with | .v (.int .i64 n) => K n | _ => none
def u8C (c : DV) (K : Int → Option R) : Option R := match c with | .v (.int .u8 n) => K n | _ => none
def strC (c : DV) (K : ByteArray → Option R) : Option R := match c with | .v (.string s) => K s | _ => none
def boolC (c : DV) (K : Bool → Option R) : Option R := match c with | .v (.bool b) => K b | _ => none
def slC (n : Nat) (c : DV) (K : List (List DV) → Option R) : Option R :=
  match c with
  | .sl false m r => bif Nat.beq m n then K r else none
  | .v (.slice none 0 0) => K []
  | _ => none
def hdC (l : List DV) (K : DV → List DV → Option R) : Option R := match l with | c :: r => K c r | [] => none
def rowC (r : List (List DV)) (i : Nat) (K : List DV → Option R) : Option R := match r[i]? with | some row => K row | none => none
/-- Which of so many it is. -/
def pickC (n : Nat) : Nat → Nat → (Nat → Option R) → Option R
  | _, 0, _ => none
  | j, k + 1, K => bif Nat.beq n j then K j else pickC n (j + 1) k K
def confC (k : CK) (c : DV) (K : DV → Option R) : Option R :=
  match k with
  | .i64 => i64C c fun n => K (.v (.int .i64 n))
  | .u8 => u8C c fun n => K (.v (.int .u8 n))
  | .str => strC c fun s => K (.v (.string s))
  | .bool => boolC c fun b => K (.v (.bool b))
  | .sl n => slC n c fun r => K (.sl false n r)
  | .any => K c
def conf : List CK → List DV → (List DV → Option R) → Option R
  | [], _, K => K []
  | k :: ks, cs, K => hdC cs fun c r => confC k c fun x => conf ks r fun l => K (x :: l)
def czL (P : Program) (t : TypeId) (dst : Option Tmp) (l : List (Nat × AV)) : List (Nat × AV) :=
  match dst with
  | some d => l.map fun p => (p.1, bif Nat.beq p.1 d then czA P t p.2 else p.2)
  | none => l
/-- The value of type t that cells make. -/
def mkT (P : Program) (t : TypeId) (l : List DV) : Option DV :=
  match isAggT P t, sizeT P t with
  | some true, some n => bif Nat.beq l.length n then some (.ag (l.map DV.dis1)) else none
  | some false, some 1 => match l with | [.tu _] => none | [x] => some x.dis1 | _ => none
  | _, _ => none

def addB (G : Cfg) (t : TypeId) (a b : DV) : Option (Bool × DV) :=
  match a, b with
  | .v (.string a), .v (.string b) => some (Nat.ble (a.size + b.size) 9223372036854775807, .v (.string (a ++ b)))
  | a, b => (binA G .add t a b).map fun z => (true, z)
def bytesSrc (P : Program) (s d : TypeId) (a : AV) : Option (List (List DV)) :=
  match P.underlying s, P.underlying d, a with
  | some (.slice e), some .string, .d x => (match P.underlying e, asSl x with
    | some (.int .u8), some (_, _, r) => some r
    | _, _ => none)
  | _, _, _ => none
/-- One operation that is wanted (but a call), with what is done then. -/
def runB (G : Cfg) (c : FC) (n0 : Nat) (ops : List Oper) (o : Oper) (fr : Fr) (ob : Ob) (K : Delta → Option R) : Option R :=
  match o.op with
  | .load t a =>
    match evA fr a with
    | .el cs => conf (kindsT G.P 8 t) cs fun l => match (mkT G.P t l).bind (retD o.dst) with | some q => K ⟨czL G.P o.type o.dst q.sl, q.ob, q.rd⟩ | none => none
    | .pt k off =>
      match ob[k]? with
      | some (some cs) =>
        bif wantsO G c.ro o.dst ops then
          match loadA G c.ro ops o.dst t (.pt k off) ob with | some q => K ⟨czL G.P o.type o.dst q.sl, q.ob, q.rd⟩ | none => none
        else conf (kindsT G.P 8 t) ((cs.drop off).map DV.dis1) fun l => match (mkT G.P t l).bind (retD o.dst) with | some q => K ⟨czL G.P o.type o.dst q.sl, q.ob, [k]⟩ | none => none
      | _ => none
    | _ => none
  | .indexAddr t x i =>
    match evA fr i with
    | .d (.v (.int _ n)) =>
      match G.P.underlying t with
      | some (.slice e) =>
        match evA fr x, sizeT G.P e with
        | .d x, some sz =>
          match asSl x with
          | some (_, m, r) =>
            bif Nat.beq m sz then
              bif decide (0 ≤ n) && decide (n < r.length) then
                rowC r n.toNat fun row => conf (kindsT G.P 8 e) row fun l => match ret1 o.dst (.el l) with | some q => K q | none => none
              else none
            else none
          | none => none
        | _, _ => none
      | some (.array len e) =>
        match evA fr x, sizeT G.P e with
        | .pt k off, some sz => bif decide (0 ≤ n) && decide (n < len) then (pickC n.toNat 0 len fun j => match ret1 o.dst (.pt k (off + j * sz)) with | some q => K q | none => none) else none
        | _, _ => none
      | _ => none
    | _ => none
  | .index t x i =>
    match evA fr x, evA fr i with
    | .d x, .d (.v (.int _ n)) =>
      match G.P.underlying t, x with
      | some (.array len e), .ag cs =>
        match sizeT G.P e with
        | some sz => bif decide (0 ≤ n) && decide (n < len) then
            pickC n.toNat 0 len fun j => conf (kindsT G.P 8 e) (cs.drop (j * sz)) fun l => match (mkT G.P e l).bind (retD o.dst) with | some q => K ⟨czL G.P o.type o.dst q.sl, q.ob, q.rd⟩ | none => none
          else none
        | none => none
      | some .string, .v (.string s) => bif decide (0 ≤ n) && decide (n < s.size) then (match retD o.dst (.v (.int .u8 (s.data.toList.getD n.toNat 0).toNat)) with | some q => K q | none => none) else none
      | _, _ => none
    | _, _ => none
  | .binOp .add t x y _ =>
    match evA fr x, evA fr y with
    | .d a, .d b => match addB G t a b with | some (ok, z) => bif ok then (match retD o.dst z with | some q => K q | none => none) else none | none => none
    | _, _ => none
  | .slice t x lo hi none =>
    match evA fr x, optD fr lo, optD fr hi with
    | .d x, some l, some h =>
      match G.P.underlying t with
      | some .string =>
        match x with
        | .v (.string s) =>
          match hiA s.size h, loA l with
          | some h, some l => bif decide (0 ≤ l) && decide (l ≤ h) && decide (h ≤ s.size) then (match retD o.dst (.v (.string (s.extract l.toNat h.toNat))) with | some q => K q | none => none) else none
          | _, _ => none
        | _ => none
      | some (.slice e) =>
        match asSl x, sizeT G.P e with
        | some (_, n, r), some m =>
          bif Nat.beq n m then
            match hiA r.length h, loA l with
            | some h, some l => bif decide (0 ≤ l) && decide (l ≤ h) && decide (h ≤ r.length) then (match retD o.dst (.sl false n ((r.drop l.toNat).take (h.toNat - l.toNat))) with | some q => K q | none => none) else none
            | _, _ => none
          else none
        | _, _ => none
      | _ => none
    | _, _, _ => none
  | .convert s d x =>
    match bytesSrc G.P s d (evA fr x) with
    | some r => match bytesOf r with | some l => (match retD o.dst (.v (.string ⟨l.toArray⟩)) with | some q => K q | none => none) | none => none
    | none => match runA G c n0 ops o fr ob with | some q => K q | none => none
  | .call { callee := .builtin .append, args := as, argTypes := ts } =>
    match as.toList, ts.toList with
    | [.tmp s, y], [t, t'] => match fr s, evA fr y, G.P.underlying t', o.dst, G.P.underlying t with
      | .d a, .d b, some (.slice _), some d, some (.slice e) =>
        match sizeT G.P e, (G.P.info? e).map (·.bytes), asSl a, asSl b, zeroT G.P e with
        | some (n + 1), some by_, some (true, m, r), some (_, m', r'), some z =>
          bif Nat.beq s d || !(Nat.beq z.cells.length (n + 1) && Nat.beq m (n + 1) && Nat.beq m' (n + 1)) then none else
          bif Nat.ble ((r.length + r'.length) * by_) 140737488355328 && Nat.ble (r.length + r'.length) 4611686018427387904 then
            K ⟨[(s, .d a.dis), (d, .d (.sl true (n + 1) (r ++ r'.map (·.map DV.dis1))))], [], []⟩ else none
        | _, _, _, _, _ => none
      | _, _, _, _, _ => none
    | _, _ => none
  | _ => match runA G c n0 ops o fr ob with | some q => K ⟨czL G.P o.type o.dst q.sl, q.ob, q.rd⟩ | none => none

/-- One operation that is wanted. -/
def runC (G : Cfg) (env : Env) (c : FC) (n0 : Nat) (ops : List Oper) (o : Oper) (fr : Fr) (ob : Ob) (K : Delta → Option R) : Option R :=
  match o.op with
  | .call { callee := .value (.func f), args := as, argTypes := ts } =>
    match callIn G f as.toList ts.toList fr ob with
    | some q => env f q.args q.objs fun r => match callOut o.dst q r with | some e => K ⟨czL G.P o.type o.dst e.sl, e.ob, e.rd⟩ | none => none
    | none => none
  | _ => runB G c n0 ops o fr ob K

/-- One operation: what is done with its change, and with the slots as they are known then. -/
def stepC (G : Cfg) (env : Env) (c : FC) (n0 : Nat) (ops : List Oper) (o : Oper) (fr : Fr) (ob : Ob) (K : Delta → Fr → Option R) : Option R :=
  match o.guard with
  | none => runC G env c n0 ops o fr ob fun q => K q fr
  | some (j, want) =>
    match (ops[j]?).bind (·.dst) with
    | some d => match fr d with
      | .d (.v (.bool b)) =>
        bif b then
          bif want then runC G env c n0 ops o (fr.put d (.d (.v (.bool true)))) ob fun q => K q (fr.put d (.d (.v (.bool true))))
          else K (undefA o.dst) (fr.put d (.d (.v (.bool true))))
        else
          bif want then K (undefA o.dst) (fr.put d (.d (.v (.bool false))))
          else runC G env c n0 ops o (fr.put d (.d (.v (.bool false)))) ob fun q => K q (fr.put d (.d (.v (.bool false))))
      | .d (.tu []) => K (undefA o.dst) fr
      | _ => none
    | none => none

def meets : List Nat → List Nat → Bool
  | [], _ => false
  | k :: r, l => mem k l || meets r l
/-- Objects that an operation touches are none that one touched which it does not wait for. -/
def okFoot (bef : Nat) (rd wr : List Nat) : List (Nat × List Nat × List Nat) → Bool
  | [] => true
  | (i, rd', wr') :: r => (bef.testBit i || (!meets wr rd' && !meets wr wr' && !meets rd wr')) && okFoot bef rd wr r

/-- The operations of a region one behind the other. -/
def regC (G : Cfg) (env : Env) (c : FC) (n0 : Nat) (ops : List Oper) (draw : Bool) : List Oper → List Nat → Nat → List (Nat × List Nat × List Nat) → Fr → Ob → (Fr → Ob → Option R) → Option R
  | [], _, _, _, fr, ob, K => K fr ob
  | o :: r, bs, i, acc, fr, ob, K => stepC G env c n0 ops o fr ob fun q fr =>
    bif !draw || okFoot (bs.headD 0) q.rd (q.ob.map (·.1)) acc then
      regC G env c n0 ops draw r bs.tail (i + 1) (bif draw then (i, q.rd, q.ob.map (·.1)) :: acc else []) (putL fr q.sl) (setL ob q.ob) K
    else none

inductive AEx where
  | nrm | ext (id : Nat) | ret

/-- At a round's head: the slots that outlive regions alone; the loop's own objects are gone. -/
def purge (bx : List Nat) : AV → AV
  | .pt k off => bif mem k bx then .un else .pt k off
  | x => x
def look {α : Type} (d : α) (n : Nat) : List (Nat × α) → α
  | [] => d
  | (m, x) :: r => bif Nat.beq m n then x else look d n r
def firstReg : Code → Nat
  | .region id _ _ => id
  | .seq a b => match a with | .skip | .label _ | .exit _ | .ret => firstReg b | a => firstReg a
  | .block _ a | .loop a | .scope a => firstReg a
  | .cond _ a b => match a with | .skip | .label _ | .exit _ | .ret => firstReg b | a => firstReg a
  | _ => 0
def headF (L bx : List Nat) (fr : Fr) : Fr := Fr.ofL (L.map fun t => (t, purge bx (fr t)))
/-- Where code is left or met again: the slots of L alone, and the objects that they point to (and those of the caller). -/
def canF (L : List Nat) (fr : Fr) : Fr := Fr.ofL (L.map fun t => (t, fr t))
def pointed (fr : Fr) (k : Nat) : List Nat → Bool
  | [] => false
  | t :: r => (match fr t with | .pt j _ => Nat.beq j k | _ => false) || pointed fr k r
def canO (n0 : Nat) (L : List Nat) (fr : Fr) : Nat → Ob → Ob
  | _, [] => []
  | i, c :: r => (bif Nat.blt i n0 || pointed fr i L then c else none) :: canO n0 L fr (i + 1) r
def look? {α : Type} (n : Nat) : List (Nat × α) → Option α
  | [] => none
  | (m, x) :: r => bif Nat.beq m n then some x else look? n r
def headO : List Nat → Ob → Ob
  | [], ob => ob
  | k :: r, ob => headO r (ob.set k none)

def headO2 (n0 : Nat) (L bx : List Nat) (fr : Fr) (ob : Ob) : Ob := canO n0 L (headF L bx fr) 0 (headO bx ob)
def boxesOf (c : FC) (n0 : Nat) : Code → List Nat
  | .region _ ops _ => ops.toList.filterMap fun o => match o.op, o.dst with
    | .alloc _, some d | .box _ _, some d => (idxOf d c.bx).map (n0 + ·)
    | _, _ => none
  | .seq a b => boxesOf c n0 a ++ boxesOf c n0 b
  | .cond _ a b => boxesOf c n0 a ++ boxesOf c n0 b
  | .block _ a | .loop a | .scope a => boxesOf c n0 a
  | _ => []

abbrev KF := AEx → Fr → Ob → Option R

/-- Loops that are known, by the first region in them. -/
abbrev LEnv := Nat → Option (Nat → Fr → Ob → KF → Option R)
abbrev noLv : LEnv := fun _ => none
def loopA (hd : Fr → Fr) (ho : Fr → Ob → Ob) (body : Fr → Ob → KF → Option R) : Nat → Fr → Ob → KF → Option R
  | 0, _, _, _ => none
  | n + 1, fr, ob, K => body fr ob fun ex fr ob => match ex with
    | .nrm => loopA hd ho body n (hd fr) (ho fr ob) K
    | e => K e fr ob

def blkK (n0 id : Nat) (L : List Nat) (K : KF) : KF := fun ex fr ob => match ex with
  | .ext i => bif Nat.beq i id then K .nrm fr ob else K (.ext i) fr ob
  | .nrm => K .nrm (canF L fr) (canO n0 L fr 0 ob)
  | .ret => K .ret fr ob
/-- Behind code that is met from several sides. -/
def endK (n0 : Nat) (L : List Nat) (K : KF) : KF := fun ex fr ob => match ex with
  | .nrm => K .nrm (canF L fr) (canO n0 L fr 0 ob)
  | e => K e fr ob
def jkey (b : Code) : Nat := firstReg b + 100000

def anc1 (bs : List Nat) : List Edge → Nat
  | [] => 0
  | e :: r => bif Region.binds .any e then 2 ^ e.on ||| bs.getD e.on 0 ||| anc1 bs r else anc1 bs r
def befA : List Oper → List Nat → List Nat
  | [], acc => acc
  | o :: r, acc => befA r (acc ++ [anc1 acc o.after.toList])
def befs (ops : Array Oper) (draw : Bool) : List Nat := bif draw then befA ops.toList [] else []

/-- The slots that an operation looks at, and those that it may turn. -/
def rdS (ops : List Oper) (o : Oper) : List Nat :=
  tmpsOf o.op.operands.toList ++ (match o.guard with | some (j, _) => ((ops[j]?).bind (·.dst)).toList | none => [])
def ownT (l : List Nat) : List Operand → Nat → List Nat
  | [], _ => []
  | .tmp t :: r, i => bif mem i l then t :: ownT l r (i + 1) else ownT l r (i + 1)
  | _ :: r, i => ownT l r (i + 1)
def wrS (G : Cfg) (c : FC) (ops : List Oper) (o : Oper) : List Nat :=
  o.dst.toList ++ (match o.op with
    | .move (.tmp t) | .assign (.tmp t) => bif takes G c ops o.dst t then [t] else []
    | .extract (.tmp t) _ => bif mem t c.live then [] else [t]
    | .store _ _ (.tmp t) => bif mem t c.live then [] else [t]
    | .call { callee := .builtin .append, args := as, .. } => (match as.toList with | .tmp t :: _ => [t] | _ => [])
    | .call { callee := .value (.func f), args := as, .. } => ownT (G.ownp f) as.toList 0
    | _ => [])
def apartS (G : Cfg) (c : FC) (ops : List Oper) (x y : Oper) : Bool :=
  !meets (wrS G c ops x) (rdS ops y) && !meets (wrS G c ops x) (wrS G c ops y) && !meets (wrS G c ops y) (rdS ops x)
/-- Those that stand ahead of y: it waits for each, or has no slot to do with it. -/
def okAhead (G : Cfg) (c : FC) (ops : List Oper) (y : Oper) (b : Nat) : List Oper → Nat → Bool
  | [], _ => true
  | x :: r, i => (b.testBit i || apartS G c ops x y) && okAhead G c ops y b r (i + 1)
def okReg (G : Cfg) (c : FC) (ops : List Oper) : List Oper → List Nat → Nat → Bool
  | [], _, _ => true
  | y :: r, bs, i => (y.after.toList.all fun e => !Region.binds .any e || Nat.blt e.on i) && okAhead G c ops y (bs.headD 0) (ops.take i) 0 && okReg G c ops r bs.tail (i + 1)
def okDst (N : Nat) (o : Oper) : Bool := match o.dst with | some d => Nat.blt d N | none => true
/-- What is asked of a function's text. -/
def okCode (G : Cfg) (c : FC) (N : Nat) : Code → Bool
  | .region _ ops draw => ops.toList.all (okDst N) && (!draw || okReg G c ops.toList ops.toList (befs ops true) 0)
  | .seq a b => okCode G c N a && okCode G c N b
  | .cond _ a b => okCode G c N a && okCode G c N b
  | .block _ a | .loop a | .scope a => okCode G c N a
  | _ => true

def codeA (G : Cfg) (env : Env) (lv : LEnv) (c : FC) (n0 n : Nat) : Code → Fr → Ob → KF → Option R
  | .skip, fr, ob, K => K .nrm fr ob
  | .region _ ops draw, fr, ob, K => regC G env c n0 ops.toList draw ops.toList (befs ops draw) 0 [] fr ob (K .nrm)
  | .seq a b, fr, ob, K => codeA G env lv c n0 n a fr ob fun ex fr ob => match ex with
    | .nrm => match look? (firstReg b) c.jn with
      | some L => match lv (jkey b) with
        | some s => s n (canF L.1 fr) (canO n0 L.1 fr 0 ob) K
        | none => codeA G env lv c n0 n b (canF L.1 fr) (canO n0 L.1 fr 0 ob) (endK n0 L.2 K)
      | none => codeA G env lv c n0 n b fr ob K
    | e => K e fr ob
  | .cond x a b, fr, ob, K => match evA fr x with
    | .d (.v (.bool t)) => bif t then codeA G env lv c n0 n a fr ob K else codeA G env lv c n0 n b fr ob K
    | _ => none
  | .block id a, fr, ob, K => codeA G env lv c n0 n a fr ob (blkK n0 id (look [] id c.bl) K)
  | .loop a, fr, ob, K => match lv (firstReg a) with
    | some s => s n (headF (look [] (firstReg a) c.lp) (boxesOf c n0 a) fr) (headO2 n0 (look [] (firstReg a) c.lp) (boxesOf c n0 a) fr ob) K
    | none => loopA (headF (look [] (firstReg a) c.lp) (boxesOf c n0 a)) (headO2 n0 (look [] (firstReg a) c.lp) (boxesOf c n0 a)) (codeA G env lv c n0 n a) n (headF (look [] (firstReg a) c.lp) (boxesOf c n0 a) fr) (headO2 n0 (look [] (firstReg a) c.lp) (boxesOf c n0 a) fr ob) K
  | .exit id, fr, ob, K => K (.ext id) (canF (look [] id c.bl) fr) (canO n0 (look [] id c.bl) fr 0 ob)
  | .ret, fr, ob, K => K .ret (canF c.rs fr) (canO n0 c.rs fr 0 ob)
  | .label _, fr, ob, K => K .nrm fr ob
  | .scope a, fr, ob, K => codeA G env lv c n0 n a fr ob K
  | _, _, _, _ => none

def resA (G : Cfg) (fr : Fr) (ob : Ob) : ResultVar → Option DV
  | .tmp t => toD (fr t)
  | .cell a t => match fr a with
    | .pt k off => match ob[k]? with | some (some cs) => partA G.P t (cs.drop off) | _ => none
    | _ => none
def resL (G : Cfg) (fr : Fr) (ob : Ob) : List ResultVar → Option (List DV)
  | [] => some []
  | r :: l => match resA G fr ob r, resL G fr ob l with | some x, some y => some (x :: y) | _, _ => none

def heads : Nat → Ob → Option (List (List DV))
  | 0, _ => some []
  | n + 1, some c :: r => (heads n r).map (c :: ·)
  | _ + 1, _ => none

def disIf (b : Bool) (x : DV) : DV := bif b then x.dis else x
def finA (G : Cfg) (dr : Bool) (fn : Func) (n0 : Nat) (fr : Fr) (ob : Ob) : Option R :=
  (resL G fr ob fn.results.toList).bind fun l => (heads n0 ob).map fun cs =>
    (disIf dr (czR G.P fn.resultTypes.toList (match l with | [x] => x | l => .tu l)), cs)

def enterF : List AV → Nat → List (Nat × AV)
  | [], _ => []
  | x :: r, i => (i, x) :: enterF r (i + 1)

def funcA (G : Cfg) (env : Env) (lv : LEnv) (n : Nat) (f : FuncId) (fn : Func) (args : List AV) (obs : List (List DV)) (K : R → Option R) : Option R :=
  match fn.body with
  | none => none
  | some body =>
    codeA G env lv (G.fc f) obs.length n body (Fr.ofL (enterF args 0)) (obs.map some ++ List.replicate (G.fc f).bx.length none) fun ex fr ob =>
      match ex with
      | .ext _ => none
      | _ => (finA G (G.disr f) fn obs.length fr ob).bind K
end Go.Proofs.YtcfoebkbahpnaaaGreat.Ab
