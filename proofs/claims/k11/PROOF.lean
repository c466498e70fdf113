import PyProof.Rows.All
import Wide.All
import OpenK.AllK
import Wide.FinOn
import HandS.ForMost
import HandS.ForExc
import HandS.Wide
import HandS.Lambda
import HandS.Flow
import KE.LtData
import KE.SortData
import KE.KDictKeyed
import KE.KeyNested
import KE.OsSetLaws
import HandS.TupSets
import HandS.TupAny
import HandS.TupMul
import HandS.Small
import KE.DataEq
import KE.DataCmp
import KE.DataIsa
import KE.DataAny
import KE.DataMinMax
import HandS.IsInst
import HandS.More
import HandS.WideBits
import HandS.Deep
import HandS.Style
import HandS.ExcInit
import HandS.ExcField
import HandS.TryMany
import HandS.HeadHook4
import HandS.HeadWalk
import HandS.Head0
import HandS.Head1
import HandS.Head2
import PySem.Challenge.RW_toldquiet_k11_loud_units_and_stretches
set_option Elab.async false
set_option linter.all false
set_option maxRecDepth 100000
section
set_option Elab.async false
set_option linter.all false
set_option maxRecDepth 100000
/-! EvA: the core language and its evaluator over deep data. -/
namespace Ev
open PySem L2

/-- deep data: tuples and lists that stand still are values; what is changed lies in the store -/
inductive D where
  | no | non | bl (b : Bool) | int (i : Int) | str (x : Str)
  | tup (ds : List D) | lst (ds : List D) | set (ds : List D)
  | scr (ds : List D)
  | dic (ks vs : List D)
  | ref (n : Nat)
  | lam (i : Nat) (cap : List D)
  | fn (i : Nat) | ty (n : String)
  deriving Inhabited

mutual
/-- plain data: no reference, nothing to call -/
def D.pure : D → Bool
  | .no => false | .non => true | .bl _ => true | .int _ => true | .str _ => true
  | .tup ds => pures ds | .lst ds => pures ds | .set ds => pures ds | .scr ds => pures ds
  | .dic ks vs => pures ks && pures vs
  | .ref _ => false | .lam _ _ => false | .fn _ => false | .ty _ => false
def pures : List D → Bool
  | [] => true
  | d :: r => d.pure && pures r
end
mutual
/-- as the library's data (sets and dicts are none of these) -/
def pd : D → PyData
  | .bl b => .bool b | .int i => .int i | .str x => .str x
  | .tup ds => .tuple (pds ds) | .lst ds => .list (pds ds) | .scr ds => .list (pds ds)
  | _ => .none
def pds : List D → List PyData
  | [] => []
  | d :: r => pd d :: pds r
end
mutual
/-- data that pd tells whole -/
def D.flat : D → Bool
  | .non => true | .bl _ => true | .int _ => true | .str _ => true
  | .tup ds => flats ds | .lst ds => flats ds | .scr ds => flats ds
  | _ => false
def flats : List D → Bool
  | [] => true
  | d :: r => d.flat && flats r
end

/-- what changes -/
inductive Cell where
  | lst (ds : List D)
  | dic (kvs : List (D × D))
  | set (ds : List D)
  | ins (c : Nat) (fs : List (Nat × D))
  deriving Inhabited
abbrev Sto := List Cell

/-- what an evaluation gives: a value, an error of the program's own class c with its what, or nothing known -/
inductive Rz (α : Type) where
  | ok (a : α) (st : Sto)
  | er (c : Nat) (w : D) (st : Sto)
  | no
def Rz.bind {α β : Type} (x : Rz α) (f : α → Sto → Rz β) : Rz β := match x with
  | .ok a st => f a st
  | .er c w st => .er c w st
  | .no => .no
def Rz.map {α β : Type} (x : Rz α) (f : α → β) : Rz β := match x with
  | .ok a st => .ok (f a) st
  | .er c w st => .er c w st
  | .no => .no
/-- a value out of an option -/
def Rz.of {α : Type} (o : Option α) (st : Sto) : Rz α := match o with
  | some a => .ok a st
  | none => .no

inductive Bop where
  | add | sub | mul | fdiv | mod | pow | shl | shr | band | bor
  deriving DecidableEq
inductive Cop where
  | lt | le | gt | ge | eq | ne | isin | notin
  deriving DecidableEq
/-- built-in functions and types that are called -/
inductive Bi where
  | len | list | tuple | int | bool | str | max | min | sum | any | all | sorted | isinstance | abs | set | dict | ord | chr
  deriving DecidableEq
/-- methods of built-in types -/
inductive Me where
  | append | extend | pop | popAt | insert | index | count | bit_length | get | get2 | add | items | values | keys | join | reverse | update | setdefault
  deriving DecidableEq

/-- what a for stores to -/
inductive Pat where
  | name (i : Nat)
  | tup (ps : List Pat)

mutual
inductive E where
  | var (i : Nat)
  | con (d : D)
  | glo (k : Nat)
  | bin (op : Bop) (a b : E)
  | neg (a : E)
  | cmp (op : Cop) (a b : E)
  | chn (op op2 : Cop) (a b c : E)
  | isN (a : E) | notN (a : E)
  | and (a b : E) | or (a b : E) | not (a : E)
  | ite (c : T) (a b : E)
  | ix (o i : E)
  | sl (o : E) (lo hi : E)
  | tup (es : Es)
  | lis (l : L)
  | new (l : L)
  | call (f : Nat) (es : Es)
  | callK (f : Nat) (es : Es) (ks : Es) (perm : List Nat)
  | callL (f : Nat) (es : Es)
  | bi (b : Bi) (es : Es)
  | lenSet (e : E)
  | me (m : Me) (o : E) (es : Es)
  | lamb (i : Nat)
  | cal (i : Nat) (es : Es)
inductive Es where
  | nil
  | cons (e : E) (r : Es)
/-- a test -/
inductive T where
  | of (e : E)
  | and (a b : T) | or (a b : T) | not (a : T)
/-- what makes a new list -/
inductive L where
  | dis (es : Es)
  | cmp (own : List Nat) (p : Pat) (it : I) (e : E)
  | cmpIf (own : List Nat) (p : Pat) (it : I) (c : T) (e : E)
  | of (e : E)
  | rep (a : L) (n : E)
  | cat (a b : E)
  | cut (o lo hi : E)
  | rev (o : E)
  | sorted (e : E)
/-- what is walked -/
inductive I where
  | of (e : E)
  | rng (es : Es)
  | enu (e : E)
  | zip (a b : E)
end

/-- what an except clause hands back -/
inductive Hd where
  | tagWhat (tag : Str)
  | con (d : D)

mutual
inductive S where
  | set (p : Pat) (e : E)
  | par (is : List Nat) (es : Es)
  | aug (i : Nat) (op : Bop) (e : E)
  | sts (o i e : E)
  | ex (e : E)
  | ret (e : E)
  | retN
  | ite (c : T) (a b : Ss)
  | whl (c : T) (b : Ss)
  | for (p : Pat) (it : I) (b : Ss)
  | rai (c : Nat) (e : E)
  | try (b : Ss) (hs : List (Nat × Hd))
  | brk | cnt | pas
inductive Ss where
  | nil
  | cons (s : S) (r : Ss)
end
end Ev

end
section
set_option Elab.async false
set_option linter.all false
set_option maxRecDepth 100000
/-! EvB: the evaluator. -/
namespace Ev
open PySem L2

/-! ### numbers -/
def small (i : Int) : Bool := decide (-18446744073709551616 < i) && decide (i < 18446744073709551616)
def arith (op : Bop) (i j : Int) : Option Int := match op with
  | .add => some (i + j)
  | .sub => some (i - j)
  | .mul => bif small i || small j then some (i * j) else none
  | .fdiv => bif !(j == 0) && decide (j.natAbs < 1073741824) then some (i.fdiv j) else none
  | .mod => bif !(j == 0) then some (i.fmod j) else none
  | .pow => bif decide (0 ≤ j) && decide (j ≤ 1000000) && small i then some (i ^ j.toNat) else none
  | .shl => bif decide (0 ≤ j) && decide (j ≤ 1000000) && small i then some (i * 2 ^ j.toNat) else none
  | .shr => bif decide (0 ≤ j) then some (i / 2 ^ j.toNat) else none
  | .band => some (Builtin.bitAnd i j)
  | .bor => some (Builtin.bitOr i j)

/-! ### data -/
def mapO {α β : Type} (f : α → Option β) : List α → Option (List β)
  | [] => some []
  | d :: r => (match f d with
    | some e => (match mapO f r with
      | some es => some (e :: es)
      | none => none)
    | none => none)

/-- the scalars and, to depth k, the tuples and lists of these -/
def fl : Nat → D → Bool
  | _, .non => true | _, .bl _ => true | _, .int _ => true | _, .str _ => true
  | k + 1, .tup ds => ds.all (fl k)
  | k + 1, .lst ds => ds.all (fl k)
  | k + 1, .scr ds => ds.all (fl k)
  | _, _ => false
/-- references to lists read, to depth k -/
def rd (st : Sto) : Nat → D → Option D
  | 0, d => bif d.pure then some d else none
  | k + 1, d => bif d.pure then some d else match d with
    | .ref n => (match st[n]? with
      | some (.lst ds) => (mapO (rd st k) ds).map .lst
      | _ => none)
    | .tup ds => (mapO (rd st k) ds).map .tup
    | .lst ds => (mapO (rd st k) ds).map .lst
    | _ => none
/-- may be a key, to depth k -/
def keyB : Nat → D → Bool
  | _, .non => true | _, .bl _ => true | _, .int _ => true | _, .str _ => true
  | k + 1, .tup ds => ds.all (keyB k)
  | _, _ => false
mutual
/-- as a key -/
def nkOf : D → NestedKey
  | .bl b => .num (if b = true then 1 else 0)
  | .int i => .num i
  | .str x => .text x
  | .tup ds => .tup (nkOfs ds)
  | _ => .none
def nkOfs : List D → List NestedKey
  | [] => []
  | d :: r => nkOf d :: nkOfs r
end
/-- a tuple that is a key -/
def tkey (d : D) : Bool := match d with
  | .tup _ => keyB 8 d
  | _ => false
/-- at a key: the keys' and the values' lists -/
def atKV (ks vs : List D) (k : D) : Option D := ((ks.zip vs).find? fun p => decide (nkOf p.1 = nkOf k)).map (·.2)
/-- the items of a list or tuple -/
def items (st : Sto) : D → Option (List D)
  | .tup ds => some ds
  | .lst ds => some ds
  | .scr ds => some ds
  | .ref n => (match st[n]? with
    | some (.lst ds) => some ds
    | _ => none)
  | _ => none
/-- of a list alone -/
def litems (st : Sto) : D → Option (List D)
  | .lst ds => some ds
  | .ref n => (match st[n]? with
    | some (.lst ds) => some ds
    | _ => none)
  | _ => none
/-- of a list, changed or not, or the script -/
def sitL (st : Sto) : D → Option (List D)
  | .tup _ => none
  | d => items st d
def dkvs (st : Sto) : D → Option (List (D × D))
  | .dic ks vs => some (ks.zip vs)
  | .ref n => (match st[n]? with
    | some (.dic kvs) => some kvs
    | _ => none)
  | _ => none
def sitems (st : Sto) : D → Option (List D)
  | .set ds => some ds
  | .ref n => (match st[n]? with
    | some (.set ds) => some ds
    | _ => none)
  | _ => none
def fit (n : Nat) : Bool := decide (n ≤ sizeLine)

def eqv (a b : D) : Bool := PyData.eqv (pd a) (pd b)
def has (ds : List D) (d : D) : Bool := ds.any fun z => eqv z d
def look (kvs : List (D × D)) (k : D) : Option D := (kvs.find? fun p => eqv p.1 k).map (·.2)
def putKV (kvs : List (D × D)) (k v : D) : List (D × D) := bif kvs.any fun p => eqv p.1 k then kvs.map (fun p => bif eqv p.1 k then (p.1, v) else p) else kvs ++ [(k, v)]
/-- without what stood ahead already -/
def dedup (ds : List D) : List D := ds.foldl (fun acc d => bif has acc d then acc else acc ++ [d]) []

/-- truth -/
def truth (st : Sto) : D → Option Bool
  | .bl b => some b
  | .int i => some (i != 0)
  | .non => some false
  | .str x => bif fit x.length then some (x.length != 0) else none
  | .tup ds => some !ds.isEmpty
  | .lst ds => some !ds.isEmpty
  | .scr ds => some !ds.isEmpty
  | .ref n => (match st[n]? with
    | some (.lst ds) => some !ds.isEmpty
    | some (.dic kvs) => some !kvs.isEmpty
    | _ => none)
  | _ => none

def repD (ds : List D) (k : Int) : List D := (List.replicate k.toNat ds).flatten
def repOk (n : Nat) (k : Int) : Bool := decide (-1000000 ≤ k) && decide (k ≤ 1000000) && fit (n * k.toNat)
def binD (st : Sto) (op : Bop) (a b : D) : Rz D := match a, b with
  | .int i, .int j => (match arith op i j with
    | some z => .ok (.int z) st
    | none => .no)
  | .int i, .bl k => (match op with
    | .add => .ok (.int (i + if k = true then 1 else 0)) st
    | _ => .no)
  | .str x, .str y => (match op with
    | .add => bif fit (x.length + y.length) then .ok (.str (x ++ y)) st else .no
    | _ => .no)
  | .tup xs, .tup ys => (match op with
    | .add => bif fit (xs.length + ys.length) then .ok (.tup (xs ++ ys)) st else .no
    | _ => .no)
  | .tup xs, .int k => (match op with
    | .mul => bif repOk xs.length k then .ok (.tup (repD xs k)) st else .no
    | _ => .no)
  | a, b => (match op with
    | .add => (match litems st a, litems st b with
      | some xs, some ys => bif fit (xs.length + ys.length) then .ok (.lst (xs ++ ys)) st else .no
      | _, _ => .no)
    | .mul => (match litems st a, b with
      | some xs, .int k => bif repOk xs.length k then .ok (.lst (repD xs k)) st else .no
      | _, _ => .no)
    | _ => .no)

def icmp (op : Cop) (i j : Int) : Option Bool := match op with
  | .lt => some (decide (i < j))
  | .le => some (decide (i ≤ j))
  | .gt => some (decide (j < i))
  | .ge => some (decide (j ≤ i))
  | .eq => some (decide (i = j))
  | .ne => some !(decide (i = j))
  | _ => none
def isNoneD : PyData → Bool
  | .none => true
  | _ => false
def dcmp (op : Cop) (a b : D) : Option Bool := match op with
  | .eq => some (eqv a b)
  | .ne => some !(eqv a b)
  | .lt => bif PySem.W.alike (pd a) (pd b) && !isNoneD (pd a) then some (PySem.W.dataLt (pd a) (pd b)) else none
  | .gt => bif PySem.W.alike (pd a) (pd b) && !isNoneD (pd a) then some (PySem.W.dataLt (pd b) (pd a)) else none
  | .le => bif PySem.W.alike (pd a) (pd b) && !isNoneD (pd a) then some !(PySem.W.dataLt (pd b) (pd a)) else none
  | .ge => bif PySem.W.alike (pd a) (pd b) && !isNoneD (pd a) then some !(PySem.W.dataLt (pd a) (pd b)) else none
  | _ => none
/-- how deep data are compared -/
def deep : Nat := 12
/-- among the items of a list or tuple -/
def inSeq (st : Sto) (a b : D) : Option Bool := match rd st deep a, rd st deep b with
  | some a', some b' => bif fl deep a' && fl deep b' then (match b' with
    | .tup ds => some (has ds a')
    | .lst ds => some (has ds a')
    | .scr ds => some (has ds a')
    | _ => none) else none
  | _, _ => none
/-- among the keys of a dict -/
def inKeys (st : Sto) (a : D) (kvs : List (D × D)) : Option Bool := match rd st deep a with
  | some a' => bif fl deep a' then some (look kvs a').isSome else none
  | none => none
def inSet (st : Sto) (a : D) (ds : List D) : Option Bool := match rd st deep a with
  | some a' => bif fl deep a' then some (has ds a') else none
  | none => none
def inD (st : Sto) (a b : D) : Option Bool := match b with
  | .str y => (match a with
    | .str x => some !(Builtin.Str.occurrences y x 0 y.length 1).isEmpty
    | _ => none)
  | .dic ks _ => bif tkey a then some (ks.any fun z => decide (nkOf z = nkOf a)) else none
  | .set ds => inSet st a ds
  | .ref n => (match st[n]? with
    | some (.lst _) => inSeq st a (.ref n)
    | some (.dic kvs) => inKeys st a kvs
    | some (.set ds) => inSet st a ds
    | _ => none)
  | b => inSeq st a b
def cmpD (st : Sto) (op : Cop) (a b : D) : Rz D := match op with
  | .isin => (match inD st a b with
    | some k => .ok (.bl k) st
    | none => .no)
  | .notin => (match inD st a b with
    | some k => .ok (.bl (!k)) st
    | none => .no)
  | op => (match a, b with
    | .int i, .int j => (match icmp op i j with
      | some k => .ok (.bl k) st
      | none => .no)
    | a, b => (match rd st deep a, rd st deep b with
      | some a', some b' => bif fl deep a' && fl deep b' then (match dcmp op a' b' with
        | some k => .ok (.bl k) st
        | none => .no) else .no
      | _, _ => .no))

def ixD (st : Sto) (o i : D) : Rz D := match o with
  | .str z => (match i with
    | .int k => bif fit z.length then (match atI z.cps.toList k with
      | some c => .ok (.str ⟨#[c]⟩) st
      | none => .no) else .no
    | _ => .no)
  | o => (match items st o with
    | some ds => (match i with
      | .int k => (match atI ds k with
        | some d => .ok d st
        | none => .no)
      | _ => .no)
    | none => (match o with
      | .dic ks vs => bif tkey i then (match atKV ks vs i with
        | some d => .ok d st
        | none => .no) else .no
      | _ => .no))
/-- a bound of a slice: none, or a number -/
def bnd : D → Option (Option Int)
  | .no => some none
  | .int i => some (some i)
  | _ => none
def cutD {α : Type} (xs : List α) (lo hi : Option Int) : List α := (xs.drop (HT.sIx xs.length 0 lo)).take (HT.sIx xs.length xs.length hi - HT.sIx xs.length 0 lo)
def slD (st : Sto) (o : D) (lo hi : Option Int) : Rz D := match o with
  | .str z => bif fit z.length then .ok (.str (cutS z lo hi)) st else .no
  | .tup ds => .ok (.tup (cutD ds lo hi)) st
  | o => (match litems st o with
    | some ds => .ok (.lst (cutD ds lo hi)) st
    | none => .no)

/-! ### built-in functions -/
inductive Ty where
  | int | bool | str | tuple | list | dict | none
  deriving DecidableEq
def tyName : Ty → String
  | .int => "int" | .bool => "bool" | .str => "str" | .tuple => "tuple" | .list => "list" | .dict => "dict" | .none => "NoneType"
def kindD (st : Sto) : D → Option Ty
  | .non => some .none | .bl _ => some .bool | .int _ => some .int | .str _ => some .str
  | .tup _ => some .tuple | .lst _ => some .list | .scr _ => some .list
  | .ref n => (match st[n]? with
    | some (.lst _) => some .list
    | some (.dic _) => some .dict
    | _ => none)
  | _ => none
def tyOf (t : String) : Option Ty := bif t == "int" then some .int else bif t == "bool" then some .bool else bif t == "str" then some .str else bif t == "tuple" then some .tuple else bif t == "list" then some .list else bif t == "dict" then some .dict else none
def isTy (k t : Ty) : Bool := decide (k = t) || (decide (k = .bool) && decide (t = .int))
def isA (st : Sto) (d : D) (t : String) : Option Bool := match kindD st d, tyOf t with
  | some k, some t => some (isTy k t)
  | _, _ => none
def intsD : List D → Option (List Int)
  | [] => some []
  | .int i :: r => (intsD r).map (i :: ·)
  | _ => none
def boolsD : List D → Option (List Bool)
  | [] => some []
  | .bl b :: r => (boolsD r).map (b :: ·)
  | _ => none
def lenD (st : Sto) (d : D) : Option Nat := match d with
  | .str z => bif fit z.length then some z.length else none
  | d => (match items st d with
    | some ds => some ds.length
    | none => (match sitems st d with
      | some ds => some ds.length
      | none => none))
def leD (a b : D) : Bool := !PySem.W.dataLt (pd b) (pd a)
/-- may be sorted: alike, no None, no empty tuples -/
def sortable (ds : List D) : Bool := (ds.all fun a => ds.all fun b => PySem.W.alike (pd a) (pd b)) && ((ds.all fun a => match a with | .tup (_ :: _) => true | _ => false) || (ds.all fun a => match a with | .tup _ => false | .non => false | _ => true))
def sortD (st : Sto) (d : D) : Option (List D) := match (match items st d with | some ds => some ds | none => sitems st d) with
  | some ds => (match mapO (rd st deep) ds with
    | some ds' => bif ds'.all (fl deep) && sortable ds' && fit ds'.length then some (ds'.mergeSort leD) else none
    | none => none)
  | none => none
def pairsD : List D → Option (List (D × D))
  | [] => some []
  | .tup [k, v] :: r => (pairsD r).map ((k, v) :: ·)
  | _ => none
/-- a pair put in: an equal key stays, its value goes -/
def putN (kvs : List (D × D)) (k v : D) : List (D × D) := bif kvs.any fun p => decide (nkOf p.1 = nkOf k) then kvs.map (fun p => bif decide (nkOf p.1 = nkOf k) then (p.1, v) else p) else kvs ++ [(k, v)]
/-- tuples of ints -/
def tupsD : List D → Option (List (List Int))
  | [] => some []
  | .tup es :: r => (match intsD es, tupsD r with
    | some n, some ns => some (n :: ns)
    | _, _ => none)
  | _ => none
/-- each once -/
def firsts {α : Type} [DecidableEq α] (l : List α) : List α := l.foldl (fun a x => if x ∈ a then a else a ++ [x]) []
/-- len(set(xs)) -/
def lenSetD (st : Sto) (d : D) : Rz D := match litems st d with
  | some ds => (match intsD ds with
    | some ns => bif decide (ns.length ≤ 4000) then .ok (.int ((firsts ns).length : Nat)) st else .no
    | none => (match tupsD ds with
      | some ks => bif decide (ks.length < 64) then .ok (.int ((firsts ks).length : Nat)) st else .no
      | none => .no))
  | none => .no
def biD (st : Sto) (b : Bi) (ds : List D) : Rz D := match b, ds with
  | .len, [d] => Rz.of ((lenD st d).map fun (n : Nat) => .int (n : Int)) st
  | .list, [d] => Rz.of ((items st d).map .lst) st
  | .tuple, [d] => Rz.of ((items st d).map .tup) st
  | .int, [.int i] => .ok (.int i) st
  | .int, [.bl b] => .ok (.int (if b = true then 1 else 0)) st
  | .bool, [.int i] => .ok (.bl (i != 0)) st
  | .bool, [.bl b] => .ok (.bl b) st
  | .max, [.int i, .int j] => .ok (.int (if j > i then j else i)) st
  | .min, [.int i, .int j] => .ok (.int (if j < i then j else i)) st
  | .max, [d] => (match (sitL st d).bind intsD with
    | some (n :: ns) => .ok (.int (ns.foldl max n)) st
    | _ => .no)
  | .min, [d] => (match (sitL st d).bind intsD with
    | some (n :: ns) => .ok (.int (ns.foldl min n)) st
    | _ => .no)
  | .sum, [d] => Rz.of (((sitL st d).bind intsD).map fun ns => .int ns.sum) st
  | .any, [d] => Rz.of (((sitL st d).bind boolsD).map fun bs => .bl (bs.any id)) st
  | .all, [d] => Rz.of (((sitL st d).bind boolsD).map fun bs => .bl (bs.all id)) st
  | .sorted, [d] => Rz.of ((sortD st d).map .lst) st
  | .isinstance, [d, .ty t] => Rz.of ((isA st d t).map .bl) st
  | .abs, [.int i] => .ok (.int (if i < 0 then -i else i)) st
  | .set, [d] => (match items st d with
    | some ds => (match mapO (rd st deep) ds with
      | some ds' => bif ds'.all (fl deep) then .ok (.set (dedup ds')) st else .no
      | none => .no)
    | none => .no)
  | .dict, [d] => (match (litems st d).bind pairsD with
    | some kvs => bif kvs.all (fun p => tkey p.1) && fit kvs.length then .ok (let r := kvs.foldl (fun a p => putN a p.1 p.2) []; .dic (r.map (·.1)) (r.map (·.2))) st else .no
    | none => .no)
  | _, _ => .no

/-! ### methods; n0: the frame's first cell -/
/-- a cell may take the value: it is the frame's own, or the value is plain -/
def may (n0 n : Nat) (d : D) : Bool := Nat.ble n0 n || d.pure
def meD (n0 : Nat) (st : Sto) (m : Me) (o : D) (as : List D) : Rz D := match m, as with
  | .bit_length, [] => (match o with
    | .int i => .ok (.int (Builtin.Int.intBits i : Nat)) st
    | _ => .no)
  | .append, [d] => (match o with
    | .ref n => (match st[n]? with
      | some (.lst ds) => bif may n0 n d && decide (ds.length < sizeLine) then .ok .non (st.set n (.lst (ds ++ [d]))) else .no
      | _ => .no)
    | _ => .no)
  | .extend, [d] => (match o with
    | .ref n => (match st[n]? with
      | some (.lst ds) => (match litems st d with
        | some es => bif (Nat.ble n0 n || pures es) && fit (ds.length + es.length) then .ok .non (st.set n (.lst (ds ++ es))) else .no
        | none => .no)
      | _ => .no)
    | _ => .no)
  | .pop, [] => (match o with
    | .ref n => (match st[n]? with
      | some (.lst ds) => (match ds.getLast? with
        | some d => .ok d (st.set n (.lst ds.dropLast))
        | none => .no)
      | _ => .no)
    | _ => .no)
  | .popAt, [.int i] => (match o with
    | .ref n => (match st[n]? with
      | some (.lst ds) => (match ixN ds.length i with
        | some j => (match ds[j]? with
          | some d => .ok d (st.set n (.lst (ds.eraseIdx j)))
          | none => .no)
        | none => .no)
      | _ => .no)
    | _ => .no)
  | .insert, [.int i, d] => (match o with
    | .ref n => (match st[n]? with
      | some (.lst ds) => bif may n0 n d && decide (ds.length < sizeLine) && decide (0 ≤ i) && decide (i ≤ ds.length) then .ok .non (st.set n (.lst (ds.take i.toNat ++ d :: ds.drop i.toNat))) else .no
      | _ => .no)
    | _ => .no)
  | .index, [d] => (match items st o with
    | some ds => (match rd st deep d, mapO (rd st deep) ds with
      | some d', some ds' => bif fl deep d' && ds'.all (fl deep) then (match ds'.findIdx? fun z => eqv z d' with
        | some j => .ok (.int (j : Nat)) st
        | none => .no) else .no
      | _, _ => .no)
    | none => .no)
  | .get, [d] => (match dkvs st o with
    | some kvs => (match rd st deep d with
      | some k => bif fl deep k then .ok ((look kvs k).getD .non) st else .no
      | none => .no)
    | none => .no)
  | .get2, [d, e] => (match dkvs st o with
    | some kvs => (match rd st deep d with
      | some k => bif fl deep k then .ok ((look kvs k).getD e) st else .no
      | none => .no)
    | none => .no)
  | _, _ => .no
/-- what has the method -/
def recv (st : Sto) (m : Me) (x : D) : Bool := match m with
  | .bit_length => (match x with
    | .int _ => true
    | _ => false)
  | .append => (sitL st x).isSome
  | .extend => (sitL st x).isSome
  | .pop => (sitL st x).isSome
  | .popAt => (sitL st x).isSome
  | .insert => (sitL st x).isSome
  | .index => (sitL st x).isSome
  | _ => false
/-- o[i] = e -/
def stsD (n0 : Nat) (st : Sto) (o i d : D) : Option Sto := match o with
  | .ref n => (match st[n]? with
    | some (.lst ds) => (match i with
      | .int k => (match ixN ds.length k with
        | some j => bif may n0 n d then some (st.set n (.lst (ds.set j d))) else none
        | none => none)
      | _ => none)
    | some (.dic kvs) => (match rd st deep i with
      | some k => bif fl deep k && may n0 n d && decide (kvs.length < sizeLine) then some (st.set n (.dic (putKV kvs k d))) else none
      | none => none)
    | _ => none)
  | _ => none

/-! ### names -/
mutual
def bindP : Pat → D → List D → Option (List D)
  | .name i, d, env => bif decide (i < env.length) then some (env.set i d) else none
  | .tup ps, d, env => (match d with
    | .tup ds => bindPs ps ds env
    | _ => none)
def bindPs : List Pat → List D → List D → Option (List D)
  | [], [], env => some env
  | p :: ps, d :: ds, env => (match bindP p d env with
    | some env' => bindPs ps ds env'
    | none => none)
  | _, _, _ => none
end
def wipeD (env : List D) : List Nat → List D
  | [] => env
  | v :: vs => (wipeD env vs).set v .no

/-! ### the evaluator -/
/-- n0: the frame's first cell; the defs, the lambdas, the module's constants -/
structure Cx where
  n0 : Nat
  call : Nat → List D → Sto → Rz D
  lamb : Nat → List D → List D → Sto → Rz D
  glo : Nat → Option D
/-- what a loop walks: items, or a cell's list as it stands at each turn -/
inductive Src where
  | its (ds : List D)
  | cell (n : Nat)
def compI (p : Pat) (env : List D) (tc : List D → Sto → Rz Bool) (te : List D → Sto → Rz D) : List D → Sto → Rz (List D)
  | [], st => .ok [] st
  | d :: r, st => (match bindP p d env with
    | some env' => (tc env' st).bind fun b st0 => bif b then (te env' st0).bind fun y st1 => (compI p env tc te r st1).bind fun ys st2 => .ok (y :: ys) st2 else compI p env tc te r st0
    | none => .no)
/-- over a cell's list, as it stands at each turn; the first number: more than the turns -/
def compC (p : Pat) (env : List D) (tc : List D → Sto → Rz Bool) (te : List D → Sto → Rz D) (n : Nat) : Nat → Nat → Sto → Rz (List D)
  | 0, _, _ => .no
  | k + 1, i, st => (match st[n]? with
    | some (.lst ds) => (match ds[i]? with
      | none => .ok [] st
      | some d => (match bindP p d env with
        | some env' => (tc env' st).bind fun b st0 => bif b then (te env' st0).bind fun y st1 => (compC p env tc te n k (i + 1) st1).bind fun ys st2 => .ok (y :: ys) st2 else compC p env tc te n k (i + 1) st0
        | none => .no))
    | _ => .no)
/-- the turns that a walk over a cell's list has at most, and one -/
def fuelC (st : Sto) (n : Nat) : Nat := match st[n]? with
  | some (.lst ds) => ds.length + 1
  | _ => 0
def compS (p : Pat) (env : List D) (tc : List D → Sto → Rz Bool) (te : List D → Sto → Rz D) (s : Src) (st : Sto) : Rz (List D) := match s with
  | .its ds => compI p env tc te ds st
  | .cell n => compC p env tc te n (fuelC st n) 0 st
def in62 (i : Int) : Bool := decide (-4611686018427387904 ≤ i) && decide (i < 4611686018427387904)
def rngD : List D → Option (List D)
  | [.int n] => bif in62 n && fit n.toNat then some ((List.range n.toNat).map fun i => .int (i : Nat)) else none
  | [.int a, .int b] => bif in62 a && in62 b && fit (b - a).toNat then some ((List.range (b - a).toNat).map fun i => .int (a + (i : Nat))) else none
  | [.int a, .int b, .int c] => bif in62 a && in62 b && decide (c = -1) && fit (a - b).toNat then some ((List.range (a - b).toNat).map fun i => .int (a - (i : Nat))) else none
  | _ => none
def enuD (ds : List D) : List D := ds.zipIdx.map fun p => .tup [.int (p.2 : Nat), p.1]
def zipD (xs ys : List D) : List D := (xs.zip ys).map fun p => .tup [p.1, p.2]

def isNon : D → Bool
  | .non => true
  | _ => false
mutual
/-- no closure within -/
def D.nolam : D → Bool
  | .tup ds => nolams ds | .lst ds => nolams ds | .set ds => nolams ds | .scr ds => nolams ds
  | .dic ks vs => nolams ks && nolams vs
  | .lam _ _ => false
  | _ => true
def nolams : List D → Bool
  | [] => true
  | d :: r => d.nolam && nolams r
end
def Cell.nolam : Cell → Bool
  | .lst ds => nolams ds
  | .dic kvs => nolams (kvs.map (·.1)) && nolams (kvs.map (·.2))
  | .set ds => nolams ds
  | .ins _ fs => nolams (fs.map (·.2))
def stL (st : Sto) : Bool := st.all Cell.nolam
/-- behind a call that got closures -/
def Rz.plain (x : Rz D) : Rz D := match x with
  | .ok d st => bif d.pure && stL st then .ok d st else .no
  | .er c w st => bif w.pure && stL st then .er c w st else .no
  | .no => .no
/-- no error may leave -/
def Rz.calm {α : Type} (x : Rz α) : Rz α := match x with
  | .er _ _ _ => .no
  | r => r
mutual
def evE (c : Cx) : E → List D → Sto → Rz D
  | .var i, env, st => (match env[i]? with
    | some d => (match d with
      | .no => .no
      | d => .ok d st)
    | none => .no)
  | .con d, _, st => .ok d st
  | .glo k, _, st => (match c.glo k with
    | some d => .ok d st
    | none => .no)
  | .bin op a b, env, st => (evE c a env st).bind fun x st => (evE c b env st).bind fun y st => binD st op x y
  | .neg a, env, st => (evE c a env st).bind fun x st => (match x with
    | .int i => .ok (.int (-i)) st
    | _ => .no)
  | .cmp op a b, env, st => (evE c a env st).bind fun x st => (evE c b env st).bind fun y st => cmpD st op x y
  | .chn op op2 a b d, env, st => (evE c a env st).bind fun x st => (evE c b env st).bind fun y st => (cmpD st op x y).bind fun z st => (match z with
    | .bl true => (evE c d env st).bind fun u st => cmpD st op2 y u
    | .bl false => .ok (.bl false) st
    | _ => .no)
  | .isN a, env, st => (evE c a env st).bind fun x st => .ok (.bl (isNon x)) st
  | .notN a, env, st => (evE c a env st).bind fun x st => .ok (.bl !(isNon x)) st
  | .and a b, env, st => (evE c a env st).bind fun x st => (match truth st x with
    | some true => evE c b env st
    | some false => .ok x st
    | none => .no)
  | .or a b, env, st => (evE c a env st).bind fun x st => (match truth st x with
    | some false => evE c b env st
    | some true => .ok x st
    | none => .no)
  | .not a, env, st => (evE c a env st).bind fun x st => (match truth st x with
    | some k => .ok (.bl (!k)) st
    | none => .no)
  | .ite t a b, env, st => (evT c t env st).bind fun k st => bif k then evE c a env st else evE c b env st
  | .ix o i, env, st => (evE c o env st).bind fun x st => (evE c i env st).bind fun y st => ixD st x y
  | .sl o lo hi, env, st => (evE c o env st).bind fun x st => ((evE c lo env st).bind fun d st => Rz.of (bnd d) st).bind fun l st => ((evE c hi env st).bind fun d st => Rz.of (bnd d) st).bind fun h st => slD st x l h
  | .tup es, env, st => (evEs c es env st).bind fun ds st => bif fit ds.length then .ok (.tup ds) st else .no
  | .lis l, env, st => (evL c l env st).bind fun ds st => .ok (.lst ds) st
  | .new l, env, st => (evL c l env st).bind fun ds st => .ok (.ref st.length) (st ++ [.lst ds])
  | .call f es, env, st => (evEs c es env st).bind fun ds st => c.call f ds st
  | .callL f es, env, st => (evEs c es env st).bind fun ds st => (c.call f ds st).plain
  | .callK f es ks perm, env, st => (evEs c es env st).bind fun ds st => (evEs c ks env st).bind fun zs st => (match mapO (fun i => (ds ++ zs)[i]?) perm with
    | some as => c.call f as st
    | none => .no)
  | .bi b es, env, st => (evEs c es env st).bind fun ds st => biD st b ds
  | .lenSet e, env, st => (evE c e env st).bind fun d st => lenSetD st d
  | .me m o es, env, st => (evE c o env st).bind fun x st => bif recv st m x then (evEs c es env st).bind fun ds st => meD c.n0 st m x ds else .no
  | .lamb i, env, st => .ok (.lam i env) st
  | .cal i es, env, st => (match env[i]? with
    | some (.lam k cap) => (evEs c es env st).bind fun ds st => c.lamb k cap ds st
    | _ => .no)
def evEs (c : Cx) : Es → List D → Sto → Rz (List D)
  | .nil, _, st => .ok [] st
  | .cons e r, env, st => (evE c e env st).bind fun d st => (evEs c r env st).bind fun ds st => .ok (d :: ds) st
def evT (c : Cx) : T → List D → Sto → Rz Bool
  | .of e, env, st => (evE c e env st).bind fun d st => (match truth st d with
    | some k => .ok k st
    | none => .no)
  | .and a b, env, st => (evT c a env st).bind fun k st => bif k then evT c b env st else .ok false st
  | .or a b, env, st => (evT c a env st).bind fun k st => bif k then .ok true st else evT c b env st
  | .not a, env, st => (evT c a env st).bind fun k st => .ok (!k) st
def evL (c : Cx) : L → List D → Sto → Rz (List D)
  | .dis es, env, st => (evEs c es env st).bind fun ds st => bif fit ds.length then .ok ds st else .no
  | .cmp own p it e, env, st => (evI c it env st).bind fun s st => compS p (wipeD env own) (fun _ st => .ok true st) (fun env st => (evE c e env st).calm) s st
  | .cmpIf own p it t e, env, st => (evI c it env st).bind fun s st => compS p (wipeD env own) (fun env st => (evT c t env st).calm) (fun env st => (evE c e env st).calm) s st
  | .of e, env, st => (evE c e env st).bind fun d st => Rz.of (items st d) st
  | .rep a n, env, st => (evL c a env st).bind fun ds st => (evE c n env st).bind fun k st => (match k with
    | .int k => bif repOk ds.length k then .ok (repD ds k) st else .no
    | _ => .no)
  | .cat a b, env, st => (evE c a env st).bind fun x st => (evE c b env st).bind fun y st => (match litems st x, litems st y with
    | some xs, some ys => bif fit (xs.length + ys.length) then .ok (xs ++ ys) st else .no
    | _, _ => .no)
  | .cut o lo hi, env, st => (evE c o env st).bind fun x st => ((evE c lo env st).bind fun d st => Rz.of (bnd d) st).bind fun l st => ((evE c hi env st).bind fun d st => Rz.of (bnd d) st).bind fun h st => (match litems st x with
    | some ds => .ok (cutD ds l h) st
    | none => .no)
  | .rev o, env, st => (evE c o env st).bind fun x st => (match litems st x with
    | some ds => .ok ds.reverse st
    | none => .no)
  | .sorted e, env, st => (evE c e env st).bind fun d st => Rz.of (sortD st d) st
def evI (c : Cx) : I → List D → Sto → Rz Src
  | .of e, env, st => (evE c e env st).bind fun d st => (match d with
    | .tup ds => .ok (.its ds) st
    | .lst ds => .ok (.its ds) st
    | .scr ds => .ok (.its ds) st
    | .ref n => .ok (.cell n) st
    | .str z => bif fit z.length then .ok (.its (z.cps.toList.map fun k => .str ⟨#[k]⟩)) st else .no
    | _ => .no)
  | .rng es, env, st => (evEs c es env st).bind fun ds st => Rz.of ((rngD ds).map .its) st
  | .enu e, env, st => (evE c e env st).bind fun d st => (match d with
    | .lst ds => .ok (.its (enuD ds)) st
    | _ => .no)
  | .zip a b, env, st => (evE c a env st).bind fun x st => (evE c b env st).bind fun y st => (match items st x, items st y with
    | some xs, some ys => .ok (.its (zipD xs ys)) st
    | _, _ => .no)
end

/-! ### statements -/
inductive Fl where
  | nx (env : List D) (st : Sto)
  | rt (d : D) (st : Sto)
  | bk (env : List D) (st : Sto)
  | ct (env : List D) (st : Sto)
  | er (c : Nat) (w : D) (env : List D) (st : Sto)
  | no
def Rz.run {α : Type} (x : Rz α) (env : List D) (f : α → Sto → Fl) : Fl := match x with
  | .ok a st => f a st
  | .er c w st => .er c w env st
  | .no => .no
def Fl.thn (x : Fl) (f : List D → Sto → Fl) : Fl := match x with
  | .nx env st => f env st
  | r => r
/-- a turn of a loop, then the rest; behind a break: out -/
def Fl.turn (x : Fl) (f : List D → Sto → Fl) : Fl := match x with
  | .nx env st => f env st
  | .ct env st => f env st
  | .bk env st => .nx env st
  | r => r
def whl (tc : List D → Sto → Rz Bool) (tb : List D → Sto → Fl) : Nat → List D → Sto → Fl
  | 0, _, _ => .no
  | k + 1, env, st => (tc env st).run env fun b st => bif b then (tb env st).turn (whl tc tb k) else .nx env st
def forI (p : Pat) (tb : List D → Sto → Fl) : List D → List D → Sto → Fl
  | [], env, st => .nx env st
  | d :: r, env, st => (match bindP p d env with
    | some env' => (tb env' st).turn (forI p tb r)
    | none => .no)
def forC (p : Pat) (tb : List D → Sto → Fl) (n : Nat) : Nat → Nat → List D → Sto → Fl
  | 0, _, _, _ => .no
  | k + 1, i, env, st => (match st[n]? with
    | some (.lst ds) => (match ds[i]? with
      | none => .nx env st
      | some d => (match bindP p d env with
        | some env' => (tb env' st).turn (forC p tb n k (i + 1))
        | none => .no))
    | _ => .no)
/-- more turns than any while has -/
def many : Nat := 1000000
def sets (env : List D) : List Nat → List D → Option (List D)
  | [], [] => some env
  | i :: is, d :: ds => bif decide (i < env.length) then sets (env.set i d) is ds else none
  | _, _ => none
def caught (sub : Nat → Nat → Bool) (c : Nat) (w : D) : List (Nat × Hd) → Option D
  | [] => none
  | (k, h) :: r => bif sub c k then some (match h with
    | .tagWhat tag => .tup [.str tag, w]
    | .con d => d) else caught sub c w r
mutual
def evS (c : Cx) (sub : Nat → Nat → Bool) : S → List D → Sto → Fl
  | .set p e, env, st => (evE c e env st).run env fun d st => (match bindP p d env with
    | some env' => .nx env' st
    | none => .no)
  | .par is es, env, st => (evEs c es env st).run env fun ds st => (match sets env is ds with
    | some env' => .nx env' st
    | none => .no)
  | .aug i op e, env, st => (match env[i]? with
    | some x => (evE c e env st).run env fun y st => (binD st op x y).run env fun z st => .nx (env.set i z) st
    | none => .no)
  | .sts o i e, env, st => (evE c e env st).run env fun d st => (evE c o env st).run env fun x st => (evE c i env st).run env fun y st => (match stsD c.n0 st x y d with
    | some st' => .nx env st'
    | none => .no)
  | .ex e, env, st => (evE c e env st).run env fun _ st => .nx env st
  | .ret e, env, st => (evE c e env st).run env fun d st => .rt d st
  | .retN, _, st => .rt .non st
  | .ite t a b, env, st => (evT c t env st).run env fun k st => bif k then evSs c sub a env st else evSs c sub b env st
  | .whl t b, env, st => whl (evT c t) (evSs c sub b) many env st
  | .for p it b, env, st => (evI c it env st).run env fun s st => (match s with
    | .its ds => forI p (evSs c sub b) ds env st
    | .cell n => forC p (evSs c sub b) n many 0 env st)
  | .rai k e, env, st => (evE c e env st).run env fun w st => bif w.pure then .er k w env st else .no
  | .try b hs, env, st => (match evSs c sub b env st with
    | .er k w env' st' => bif sub k k then (match caught sub k w hs with
      | some d => .rt d st'
      | none => .er k w env' st') else .no
    | r => r)
  | .brk, env, st => .bk env st
  | .cnt, env, st => .ct env st
  | .pas, env, st => .nx env st
def evSs (c : Cx) (sub : Nat → Nat → Bool) : Ss → List D → Sto → Fl
  | .nil, env, st => .nx env st
  | .cons s r, env, st => (evS c sub s env st).thn (evSs c sub r)
end

/-! ### defs -/
/-- references to the frame's own lists read, to depth k -/
def rdY (n0 : Nat) (st : Sto) : Nat → D → Option D
  | 0, d => bif d.pure then some d else none
  | k + 1, d => bif d.pure then some d else match d with
    | .ref n => (match Nat.ble n0 n, st[n]? with
      | true, some (.lst ds) => (mapO (rdY n0 st k) ds).map .lst
      | _, _ => none)
    | .tup ds => (mapO (rdY n0 st k) ds).map .tup
    | .lst ds => (mapO (rdY n0 st k) ds).map .lst
    | _ => none
/-- what a call leaves: the frame's own cells go, but for a list that is handed back to be changed -/
def fin (n0 : Nat) (own : Bool) (d : D) (st : Sto) : Rz D := bif d.pure then .ok d (st.take n0) else match d with
  | .ref k => (match Nat.ble n0 k with
    | false => .ok d (st.take n0)
    | true => (match st[k]? with
      | some (.lst ds) => bif own then (match mapO (rdY n0 (st.set k (.set [])) deep) ds with
        | some ds' => .ok (.ref n0) (st.take n0 ++ [.lst ds'])
        | none => .no) else (match mapO (rdY n0 st deep) ds with
        | some ds' => .ok (.lst ds') (st.take n0)
        | none => .no)
      | some (.dic kvs) => bif kvs.all (fun p => p.1.pure && p.2.pure) then (bif own then .ok (.ref n0) (st.take n0 ++ [.dic kvs]) else .ok (.dic (kvs.map (·.1)) (kvs.map (·.2))) (st.take n0)) else .no
      | _ => .no))
  | d => (match rdY n0 st deep d with
    | some d' => .ok d' (st.take n0)
    | none => .no)
/-- a def: its parameters' number, its slots' number, whether what it hands back may be changed, its body -/
structure Def where
  ps : Nat
  n : Nat
  own : Bool
  body : Ss
structure Prog where
  defs : Nat → Option Def
  lams : Nat → Option (List Nat × E)
  glo : Nat → Option D
  sub : Nat → Nat → Bool
inductive Ent where
  | fn (f : Nat)
  | lam (i : Nat) (cap : List D)
def runDef (P : Prog) (c : Cx) (d : Def) (as : List D) (st : Sto) : Rz D := match evSs c P.sub d.body (as ++ List.replicate (d.n - as.length) .no) st with
  | .rt v st' => fin c.n0 d.own v st'
  | .nx _ st' => .ok .non (st'.take c.n0)
  | .er k w _ st' => bif w.pure then .er k w (st'.take c.n0) else .no
  | _ => .no
def runLam (c : Cx) (l : List Nat × E) (cap as : List D) (st : Sto) : Rz D := match sets cap l.1 as with
  | some env => (match evE c l.2 env st with
    | .ok v st' => fin c.n0 false v st'
    | .er k w st' => bif w.pure then .er k w (st'.take c.n0) else .no
    | .no => .no)
  | none => .no
def go (P : Prog) : Nat → Ent → List D → Sto → Rz D
  | 0, _, _, _ => .no
  | n + 1, .fn f, as, st => (match P.defs f with
    | some d => bif d.ps == as.length then runDef P ⟨st.length, fun f => go P n (.fn f), fun i cap => go P n (.lam i cap), P.glo⟩ d as st else .no
    | none => .no)
  | n + 1, .lam i cap, as, st => (match P.lams i with
    | some l => runLam ⟨st.length, fun f => go P n (.fn f), fun i cap => go P n (.lam i cap), P.glo⟩ l cap as st
    | none => .no)
/-- the call of def f at depth n -/
abbrev call (P : Prog) (n f : Nat) (as : List D) (st : Sto) : Rz D := go P n (.fn f) as st
/-- the class c is k or stands under it (a table of parents; one's own number: none) -/
def under (par : List Nat) : Nat → Nat → Nat → Bool
  | 0, _, _ => false
  | n + 1, c, k => c == k || (match par[c]? with
    | some p => bif p == c then false else under par n p k
    | none => false)
def mkProg (ds : List Def) (ls : List (List Nat × E)) (gs : List D) (par : List Nat) : Prog := ⟨fun i => ds[i]?, fun i => ls[i]?, fun i => gs[i]?, fun c k => decide (c < par.length) && under par 8 c k⟩
end Ev

end
section
set_option Elab.async false
set_option linter.all false
set_option maxRecDepth 100000
set_option autoImplicit false
/-! EvC: what of the heap the data stand for. -/
namespace Ev
open PySem L2

mutual
/-- references below m alone -/
def D.upTo (m : Nat) : D → Bool
  | .ref n => Nat.blt n m
  | .tup ds => upTos m ds | .lst ds => upTos m ds | .set ds => upTos m ds | .scr ds => upTos m ds
  | .dic ks vs => upTos m ks && upTos m vs
  | .lam _ cap => upTos m cap
  | _ => true
def upTos (m : Nat) : List D → Bool
  | [] => true
  | d :: r => d.upTo m && upTos m r
end
def Cell.upTo (m : Nat) : Cell → Bool
  | .lst ds => upTos m ds
  | .dic kvs => upTos m (kvs.map (·.1)) && upTos m (kvs.map (·.2))
  | .set ds => upTos m ds
  | .ins _ fs => upTos m (fs.map (·.2))
/-- the first m cells know but themselves -/
def Old (m : Nat) (st : Sto) : Prop := m ≤ st.length ∧ ∀ (k : Nat) c, k < m → st[k]? = some c → c.upTo m = true
theorem ba {a b : Bool} (h : (a && b) = true) : a = true ∧ b = true := Bool.and_eq_true_iff.mp h
mutual
theorem upTo_pure (m : Nat) : ∀ d : D, d.pure = true → d.upTo m = true
  | .no, h => by simp [D.pure] at h
  | .non, _ => rfl | .bl _, _ => rfl | .int _, _ => rfl | .str _, _ => rfl
  | .tup ds, h => by
    simp only [D.pure] at h
    simp only [D.upTo]
    exact upTos_pure m ds h
  | .lst ds, h => by
    simp only [D.pure] at h
    simp only [D.upTo]
    exact upTos_pure m ds h
  | .set ds, h => by
    simp only [D.pure] at h
    simp only [D.upTo]
    exact upTos_pure m ds h
  | .scr ds, h => by
    simp only [D.pure] at h
    simp only [D.upTo]
    exact upTos_pure m ds h
  | .dic ks vs, h => by
    simp only [D.pure] at h
    simp only [D.upTo]
    rw [upTos_pure m ks (ba h).1, upTos_pure m vs (ba h).2]
    rfl
  | .ref _, h => by simp [D.pure] at h
  | .lam _ _, h => by simp [D.pure] at h
  | .fn _, _ => rfl | .ty _, _ => rfl
theorem upTos_pure (m : Nat) : ∀ ds : List D, pures ds = true → upTos m ds = true
  | [], _ => rfl
  | d :: r, h => by
    simp only [pures] at h
    simp only [upTos]
    rw [upTo_pure m d (ba h).1, upTos_pure m r (ba h).2]
    rfl
end
theorem upTos_iff {m : Nat} : ∀ {ds : List D}, upTos m ds = true ↔ ∀ d ∈ ds, d.upTo m = true
  | [] => by simp [upTos]
  | d :: r => by
    simp only [upTos, Bool.and_eq_true, List.mem_cons, forall_eq_or_imp]
    rw [upTos_iff]
theorem pures_iff : ∀ {ds : List D}, pures ds = true ↔ ∀ d ∈ ds, d.pure = true
  | [] => by simp [pures]
  | d :: r => by
    simp only [pures, Bool.and_eq_true, List.mem_cons, forall_eq_or_imp]
    rw [pures_iff]

/-- l: addresses that no datum stands at (lists in the making); T: the tables of code objects; q: the lambdas' qualified names; clo: function object f of code object c' is lambda k over the slots -/
structure Zt where
  l : List Addr
  T : List (Addr × Str)
  q : Nat → Str
  clo : Addr → Addr → Nat → List (Option V) → Prop
/-- the written part, and what a context fixes -/
structure Fw where
  K : PySem.W.Frag
  P : Program
  w : World
structure KZ where
  F : Fw
  z : Zt
abbrev KZ.K (k : KZ) : PySem.W.Frag := k.F.K
abbrev kz (F : Fw) (ζ : Zt) : KZ := ⟨F, ζ⟩
abbrev _root_.L2.Cx.fw (X : L2.Cx) : Fw := ⟨X.K, X.prog, X.w⟩
abbrev Zt.add (ζ : Zt) (p : Addr) : Zt := { ζ with l := p :: ζ.l }
/-- a dict whose keys are tuples, by its entries -/
def DicO (P : Program) (w : World) (a : Addr) (xs : List (NestedKey × Addr × Value)) : HO := .ext fun h => ∃ o es ep, h.get? a = some o ∧ o.ExactDict ∧ o.data = .dict es ep ∧ es.toList = xs.map (entryOfKey (nestedKind P w)) ∧ (xs.map (·.1)).Nodup
theorem dicO_ne {P : Program} {w : World} {a : Addr} {xs : List (NestedKey × Addr × Value)} (ps : Array Value) : DicO P w a xs ≠ .tbl ps := fun z => by
  unfold DicO at z
  cases z
section
variable (K : KZ) (ρ : List Addr) (H : Hp)
/-- a tuple of the written part -/
def KTup (a : Addr) (vs : List V) : Prop := ∃ (o : Obj) (its : Array Value) (n : Nat), K.K.lookup a = some o ∧ o.cls = .type "tuple" ∧ o.data = .seq its n ∧ its.size ≤ sizeLine ∧ Vals vs its.toList
def TupAt (a : Addr) (vs : List V) : Prop := (a ∉ ρ ∧ a ∉ K.z.l ∧ Rd H a (.tup vs)) ∨ KTup K a vs
def LstAt (a : Addr) (vs : List V) : Prop := a ∉ ρ ∧ a ∉ K.z.l ∧ H a = some (.lst vs)
/-- the script: a list that is known to the object -/
def KLst (a : Addr) (vs : List V) : Prop := ∃ (o : Obj) (its : Array Value) (n : Nat), K.K.lookup a = some o ∧ o.cls = .type "list" ∧ o.dict = none ∧ o.data = .seq its n ∧ its.size ≤ sizeLine ∧ Vals vs its.toList
def ScrAt (a : Addr) (vs : List V) : Prop := (a ∉ ρ ∧ a ∉ K.z.l ∧ Rd H a (.lst vs)) ∨ KLst K a vs
mutual
/-- the datum as a value of the heap; ρ: where the store's cells stand -/
def Rep : D → V → Prop
  | .no, _ => False
  | .non, v => v = .non
  | .bl b, v => v = .bl b
  | .int i, v => v = .int i
  | .str x, v => v = .str x
  | .tup ds, v => ∃ a vs, v = .ref a ∧ TupAt K ρ H a vs ∧ vs.length ≤ sizeLine ∧ Reps ds vs
  | .lst ds, v => ∃ a vs, v = .ref a ∧ LstAt K ρ H a vs ∧ vs.length ≤ sizeLine ∧ Reps ds vs
  | .set _, _ => False
  | .scr ds, v => ∃ a vs, v = .ref a ∧ ScrAt K ρ H a vs ∧ vs.length ≤ sizeLine ∧ Reps ds vs
  | .dic ks vs, v => ∃ a xs us, v = .ref a ∧ (a ∉ ρ ∧ a ∉ K.z.l) ∧ H a = some (DicO K.F.P K.F.w a xs) ∧ ((a == sysModules) = false ∧ xs.length ≤ sizeLine) ∧ (xs.map (·.1) = nkOfs ks ∧ ks.all tkey = true) ∧ Reps ks (xs.map fun x => V.ref x.2.1) ∧ Vals us (xs.map (·.2.2)) ∧ Reps vs us
  | .ref n, v => ∃ a, v = .ref a ∧ ρ[n]? = some a
  | .lam k cap, v => ∃ f c' σ, v = .ref f ∧ K.z.clo f c' k σ ∧ c' ∉ ρ ∧ c' ∉ K.z.l ∧ H c' = some (LamX.CodeO c' (K.z.q k)) ∧ RepE cap σ
  | .fn _, _ => False
  | .ty n, v => v = .ty n
/-- slots: what has a datum has its value -/
def RepE : List D → List (Option V) → Prop
  | [], σ => σ = []
  | d :: ds, σ => ∃ o r, σ = o :: r ∧ (d = .no ∨ ∃ v, o = some v ∧ Rep d v) ∧ RepE ds r
def Reps : List D → List V → Prop
  | [], vs => vs = []
  | d :: ds, vs => ∃ v r, vs = v :: r ∧ Rep d v ∧ Reps ds r
end
def CellRep (a : Addr) : Cell → Prop
  | .lst ds => ∃ vs, H a = some (.lst vs) ∧ vs.length ≤ sizeLine ∧ Reps K ρ H ds vs
  | .dic _ => False
  | .set _ => False
  | .ins _ _ => False
/-- the table at P tells code objects of the name q -/
def TabR (P : Addr) (q : Str) : Prop := P ∉ ρ ∧ ∃ ps : Array Value, H P = some (.tbl ps) ∧ TriplesOk ps.toList ∧ ∀ (pos : Pos) (cv : Value), codeAmong pos ps.toList = some cv → ∃ c, cv = .ref c ∧ c ∉ ρ ∧ c ∉ K.z.l ∧ H c = some (LamX.CodeO c q)
structure RelSt (M : Nat → Prop) (st : Sto) : Prop where
  old : ∀ m, M m → Old m st
  len : ρ.length = st.length
  nd : ρ.Nodup
  rsv : ∀ z ∈ K.z.l, z ∉ ρ ∧ ∃ vs, H z = some (.lst vs)
  tab : ∀ p ∈ K.z.T, TabR K ρ H p.1 p.2
  cell : ∀ (n : Nat) c, st[n]? = some c → ∃ a, ρ[n]? = some a ∧ CellRep K ρ H a c
end
/-- what an evaluation keeps: all but the store's cells -/
def Step (ρ : List Addr) (H : Hp) (ρ' : List Addr) (H' : Hp) : Prop := ρ <+: ρ' ∧ ∀ a o, H a = some o → a ∉ ρ → (∀ ps, o ≠ .tbl ps) → H' a = some o ∧ a ∉ ρ'
section
variable {K : KZ} {ρ ρ1 ρ2 : List Addr} {H H1 H2 : Hp} {M : Nat → Prop}
theorem Step.refl : Step ρ H ρ H := ⟨List.prefix_refl _, fun _ _ h n _ => ⟨h, n⟩⟩
theorem Step.trans (a : Step ρ H ρ1 H1) (b : Step ρ1 H1 ρ2 H2) : Step ρ H ρ2 H2 := ⟨a.1.trans b.1, fun x o h n t => b.2 x o (a.2 x o h n t).1 (a.2 x o h n t).2 t⟩
theorem Step.at_ (s : Step ρ H ρ1 H1) {n : Nat} {a : Addr} (h : ρ[n]? = some a) : ρ1[n]? = some a := by
  obtain ⟨⟨t, rfl⟩, _⟩ := s
  obtain ⟨h1, h2⟩ := List.getElem?_eq_some_iff.mp h
  rw [List.getElem?_append_left h1]
  exact h
theorem Step.rd (s : Step ρ H ρ1 H1) {a : Addr} {u : HO} (ht : ∀ ps, u ≠ .tbl ps) (n : a ∉ ρ) (h : Rd H a u) : a ∉ ρ1 ∧ Rd H1 a u := by
  rcases h with h | ⟨o, h⟩
  · exact ⟨(s.2 _ _ h n ht).2, .inl (s.2 _ _ h n ht).1⟩
  · exact ⟨(s.2 _ _ h n (fun _ z => by cases z)).2, .inr ⟨o, (s.2 _ _ h n (fun _ z => by cases z)).1⟩⟩
theorem TupAt.step (s : Step ρ H ρ1 H1) {a : Addr} {vs : List V} (h : TupAt K ρ H a vs) : TupAt K ρ1 H1 a vs := by
  rcases h with ⟨n, z, h⟩ | h
  · exact .inl ⟨(s.rd (fun _ z => by cases z) n h).1, z, (s.rd (fun _ z => by cases z) n h).2⟩
  · exact .inr h
theorem LstAt.step (s : Step ρ H ρ1 H1) {a : Addr} {vs : List V} (h : LstAt K ρ H a vs) : LstAt K ρ1 H1 a vs := ⟨(s.2 _ _ h.2.2 h.1 (fun _ z => by cases z)).2, h.2.1, (s.2 _ _ h.2.2 h.1 (fun _ z => by cases z)).1⟩
theorem ScrAt.step (s : Step ρ H ρ1 H1) {a : Addr} {vs : List V} (h : ScrAt K ρ H a vs) : ScrAt K ρ1 H1 a vs := by
  rcases h with ⟨n, z, h⟩ | h
  · exact .inl ⟨(s.rd (fun _ z => by cases z) n h).1, z, (s.rd (fun _ z => by cases z) n h).2⟩
  · exact .inr h
theorem ScrAt.sq {a : Addr} {vs : List V} (h : ScrAt K ρ H a vs) : SqL K.K H a vs := by
  rcases h with ⟨_, _, h⟩ | h
  · exact .inl h
  · exact .inr h
mutual
theorem Rep.step (s : Step ρ H ρ1 H1) : ∀ (d : D) (v : V), Rep K ρ H d v → Rep K ρ1 H1 d v
  | .no, _, h => h
  | .non, _, h => h
  | .bl _, _, h => h
  | .int _, _, h => h
  | .str _, _, h => h
  | .tup ds, v, h => by
    simp only [Rep] at h ⊢
    obtain ⟨a, vs, e, t, l, r⟩ := h
    exact ⟨a, vs, e, t.step s, l, Reps.step s ds vs r⟩
  | .lst ds, v, h => by
    simp only [Rep] at h ⊢
    obtain ⟨a, vs, e, t, l, r⟩ := h
    exact ⟨a, vs, e, t.step s, l, Reps.step s ds vs r⟩
  | .set _, _, h => h
  | .scr ds, v, h => by
    simp only [Rep] at h ⊢
    obtain ⟨a, vs, e, t, l, r⟩ := h
    exact ⟨a, vs, e, t.step s, l, Reps.step s ds vs r⟩
  | .dic ks vs, v, h => by
    simp only [Rep] at h ⊢
    obtain ⟨a, xs, us, e, h1, h2, h3, h4, h5, h6, h7⟩ := h
    have q := s.2 _ _ h2 h1.1 dicO_ne
    exact ⟨a, xs, us, e, ⟨q.2, h1.2⟩, q.1, h3, h4, Reps.step s ks _ h5, h6, Reps.step s vs us h7⟩
  | .ref n, v, h => by
    simp only [Rep] at h ⊢
    obtain ⟨a, e, t⟩ := h
    exact ⟨a, e, s.at_ t⟩
  | .lam k cap, _, h => by
    simp only [Rep] at h ⊢
    obtain ⟨f, c', σ, e, h1, h2, h3, h4, h5⟩ := h
    have q := s.2 _ _ h4 h2 (LamX.codeO_ne)
    exact ⟨f, c', σ, e, h1, q.2, h3, q.1, RepE.step s cap σ h5⟩
  | .fn _, _, h => h
  | .ty _, _, h => h
theorem RepE.step (s : Step ρ H ρ1 H1) : ∀ (ds : List D) (σ : List (Option V)), RepE K ρ H ds σ → RepE K ρ1 H1 ds σ
  | [], _, h => h
  | d :: ds, σ, h => by
    simp only [RepE] at h ⊢
    obtain ⟨o, r, e, h1, h2⟩ := h
    refine ⟨o, r, e, ?_, RepE.step s ds r h2⟩
    rcases h1 with h1 | ⟨v, h1, h3⟩
    · exact .inl h1
    · exact .inr ⟨v, h1, Rep.step s d v h3⟩
theorem Reps.step (s : Step ρ H ρ1 H1) : ∀ (ds : List D) (vs : List V), Reps K ρ H ds vs → Reps K ρ1 H1 ds vs
  | [], _, h => h
  | d :: ds, vs, h => by
    simp only [Reps] at h ⊢
    obtain ⟨v, r, e, h1, h2⟩ := h
    exact ⟨v, r, e, Rep.step s d v h1, Reps.step s ds r h2⟩
end
theorem Reps.nil : Reps K ρ H [] [] := by simp [Reps]
theorem Reps.cons {d : D} {ds : List D} {v : V} {vs : List V} (h : Rep K ρ H d v) (r : Reps K ρ H ds vs) : Reps K ρ H (d :: ds) (v :: vs) := by
  simp only [Reps]
  exact ⟨v, vs, rfl, h, r⟩
theorem Reps.length : ∀ {ds : List D} {vs : List V}, Reps K ρ H ds vs → vs.length = ds.length
  | [], _, h => by
    simp only [Reps] at h
    rw [h]
    rfl
  | d :: ds, vs, h => by
    simp only [Reps] at h
    obtain ⟨v, r, rfl, _, h2⟩ := h
    simp [Reps.length h2]
theorem Reps.append : ∀ {ds es : List D} {vs us : List V}, Reps K ρ H ds vs → Reps K ρ H es us → Reps K ρ H (ds ++ es) (vs ++ us)
  | [], _, _, _, h, g => by
    simp only [Reps] at h
    rw [h]
    exact g
  | d :: ds, es, vs, us, h, g => by
    simp only [Reps] at h
    obtain ⟨v, r, rfl, h1, h2⟩ := h
    exact Reps.cons h1 (Reps.append h2 g)
theorem Reps.get : ∀ {ds : List D} {vs : List V} {i : Nat} {d : D}, Reps K ρ H ds vs → ds[i]? = some d → ∃ v, vs[i]? = some v ∧ Rep K ρ H d v
  | [], _, i, _, _, e => by simp at e
  | d :: ds, vs, 0, _, h, e => by
    simp only [Reps] at h
    obtain ⟨v, r, rfl, h1, h2⟩ := h
    simp at e
    subst e
    exact ⟨v, rfl, h1⟩
  | d :: ds, vs, i + 1, _, h, e => by
    simp only [Reps] at h
    obtain ⟨v, r, rfl, h1, h2⟩ := h
    simpa using Reps.get h2 (by simpa using e)
theorem Reps.get' : ∀ {ds : List D} {vs : List V} {i : Nat} {v : V}, Reps K ρ H ds vs → vs[i]? = some v → ∃ d, ds[i]? = some d ∧ Rep K ρ H d v
  | ds, vs, i, v, h, e => by
    obtain ⟨hl, _⟩ := List.getElem?_eq_some_iff.mp e
    rw [h.length] at hl
    obtain ⟨u, e2, r⟩ := Reps.get h (List.getElem?_eq_getElem hl)
    rw [e] at e2
    cases e2
    exact ⟨_, List.getElem?_eq_getElem hl, r⟩
theorem Reps.set : ∀ {ds : List D} {vs : List V} {d : D} {v : V} (i : Nat), Reps K ρ H ds vs → Rep K ρ H d v → Reps K ρ H (ds.set i d) (vs.set i v)
  | [], _, _, _, _, h, _ => by
    simp only [Reps] at h
    rw [h]
    exact Reps.nil
  | d :: ds, vs, _, _, 0, h, g => by
    simp only [Reps] at h
    obtain ⟨v, r, rfl, h1, h2⟩ := h
    exact Reps.cons g h2
  | d :: ds, vs, _, _, i + 1, h, g => by
    simp only [Reps] at h
    obtain ⟨v, r, rfl, h1, h2⟩ := h
    exact Reps.cons h1 (Reps.set i h2 g)
theorem Reps.take : ∀ {ds : List D} {vs : List V} (n : Nat), Reps K ρ H ds vs → Reps K ρ H (ds.take n) (vs.take n)
  | _, _, 0, _ => by
    simp only [List.take_zero]
    exact Reps.nil
  | [], _, n + 1, h => by
    simp only [Reps] at h
    rw [h]
    exact Reps.nil
  | d :: ds, vs, n + 1, h => by
    simp only [Reps] at h
    obtain ⟨v, r, rfl, h1, h2⟩ := h
    exact Reps.cons h1 (Reps.take n h2)
theorem Reps.drop : ∀ {ds : List D} {vs : List V} (n : Nat), Reps K ρ H ds vs → Reps K ρ H (ds.drop n) (vs.drop n)
  | _, _, 0, h => h
  | [], _, n + 1, h => by
    simp only [Reps] at h
    rw [h]
    exact Reps.nil
  | d :: ds, vs, n + 1, h => by
    simp only [Reps] at h
    obtain ⟨v, r, rfl, h1, h2⟩ := h
    exact Reps.drop n h2
theorem CellRep.step' (s : Step ρ H ρ1 H1) {a : Addr} {c : Cell} (e : H1 a = H a) (h : CellRep K ρ H a c) : CellRep K ρ1 H1 a c := by
  cases c with
  | lst ds =>
    obtain ⟨vs, h1, h2, h3⟩ := h
    exact ⟨vs, by rw [e]; exact h1, h2, Reps.step s _ _ h3⟩
  | dic _ => exact h
  | set _ => exact h
  | ins _ _ => exact h
theorem RelSt.inj {st : Sto} (r : RelSt K ρ H M st) {m n : Nat} {a : Addr} (h1 : ρ[m]? = some a) (h2 : ρ[n]? = some a) : m = n := by
  obtain ⟨l1, e1⟩ := List.getElem?_eq_some_iff.mp h1
  obtain ⟨l2, e2⟩ := List.getElem?_eq_some_iff.mp h2
  exact (List.getElem_inj r.nd).mp (e1.trans e2.symm)
theorem RelSt.there {st : Sto} (r : RelSt K ρ H M st) {a : Addr} (h : a ∈ ρ) : ∃ (n : Nat) (c : Cell), ρ[n]? = some a ∧ st[n]? = some c ∧ CellRep K ρ H a c := by
  obtain ⟨n, hn⟩ := List.getElem?_of_mem h
  obtain ⟨l, _⟩ := List.getElem?_eq_some_iff.mp hn
  have l2 : n < st.length := by rw [← r.len]; exact l
  obtain ⟨a', h1, h2⟩ := r.cell n _ (List.getElem?_eq_getElem l2)
  rw [hn] at h1
  cases h1
  exact ⟨n, _, hn, List.getElem?_eq_getElem l2, h2⟩
theorem CellRep.some {a : Addr} {c : Cell} (h : CellRep K ρ H a c) : ∃ o, H a = some o := by
  cases c with
  | lst ds =>
    obtain ⟨vs, h1, _⟩ := h
    exact ⟨_, h1⟩
  | dic _ => exact h.elim
  | set _ => exact h.elim
  | ins _ _ => exact h.elim
/-- a cell's address is known -/
theorem RelSt.known {st : Sto} (r : RelSt K ρ H M st) {a : Addr} (h : a ∈ ρ) : ∃ o, H a = some o := by
  obtain ⟨_, _, _, _, q⟩ := r.there h
  exact q.some
theorem RelSt.fresh {st : Sto} (r : RelSt K ρ H M st) {a : Addr} (h : H a = none) : a ∉ ρ := fun m => by
  obtain ⟨o, e⟩ := r.known m
  rw [h] at e
  cases e

theorem TabR.of {K1 : KZ} {P : Addr} {q : Str} (t : TabR K ρ H P q) (k : ∀ a o, H a = some o → a ∉ ρ → (∀ vs, o ≠ .lst vs) → H1 a = some o ∧ a ∉ ρ1 ∧ (a ∉ K.z.l → a ∉ K1.z.l)) : TabR K1 ρ1 H1 P q := by
  obtain ⟨h0, ps, h1, h2, h3⟩ := t
  have q1 := k _ _ h1 h0 (fun _ z => by cases z)
  refine ⟨q1.2.1, ps, q1.1, h2, fun pos cv e => ?_⟩
  obtain ⟨c, e1, e2, e3, e4⟩ := h3 pos cv e
  have q2 := k _ _ e4 e2 (fun vs z => by unfold LamX.CodeO at z; cases z)
  exact ⟨c, e1, q2.2.1, q2.2.2 e3, q2.1⟩
/-! ### the heap moves -/
/-- a new object that is no cell -/
theorem Step.new {p : Addr} {o : HO} (hp : H p = none) : Step ρ H ρ (upd H p o) := ⟨List.prefix_refl _, fun a u h n _ => ⟨by rw [upd_ne (ne_of_none h hp)]; exact h, n⟩⟩
theorem RelSt.new {st : Sto} (r : RelSt K ρ H M st) {p : Addr} {o : HO} (hp : H p = none) : RelSt K ρ (upd H p o) M st := ⟨r.old, r.len, r.nd, fun z hz => ⟨(r.rsv z hz).1, (r.rsv z hz).2.elim fun o e => ⟨o, by rw [upd_ne (ne_of_none e hp)]; exact e⟩⟩, fun p hp' => (r.tab p hp').of fun a o e n _ => ⟨by rw [upd_ne (ne_of_none e hp)]; exact e, n, id⟩, fun n c e => by
  obtain ⟨a, h1, h2⟩ := r.cell n c e
  obtain ⟨u, hu⟩ := h2.some
  exact ⟨a, h1, h2.step' (Step.new hp) (upd_ne (ne_of_none hu hp))⟩⟩
/-- a new list is a cell from now on -/
theorem Step.cell {p : Addr} {vs : List V} (hp : H p = none) : Step ρ H (ρ ++ [p]) (upd H p (.lst vs)) := ⟨List.prefix_append _ _, fun a u h n _ => by
  have ne := ne_of_none h hp
  refine ⟨by rw [upd_ne ne]; exact h, fun m => ?_⟩
  rcases List.mem_append.mp m with m | m
  · exact n m
  · exact ne (by simpa using m)⟩
theorem RelSt.cellNew {st : Sto} (r : RelSt K ρ H M st) {p : Addr} {vs : List V} {ds : List D} (hp : H p = none) (hl : vs.length ≤ sizeLine) (h : Reps K ρ H ds vs) : RelSt K (ρ ++ [p]) (upd H p (.lst vs)) M (st ++ [.lst ds]) where
  old := fun m hm => by
    obtain ⟨h1, h2⟩ := r.old m hm
    refine ⟨by simp; omega, fun k c hk e => h2 k c hk ?_⟩
    rw [List.getElem?_append_left (by omega)] at e
    exact e
  len := by simp [r.len]
  nd := by
    refine List.nodup_append.mpr ⟨r.nd, by simp, fun a ha b hb e => ?_⟩
    have hb' : b = p := by simpa using hb
    rw [e, hb'] at ha
    exact r.fresh hp ha
  rsv := fun z hz => by
    obtain ⟨h1, o, h2⟩ := r.rsv z hz
    have ne := ne_of_none h2 hp
    refine ⟨fun m => ?_, o, by rw [upd_ne ne]; exact h2⟩
    rcases List.mem_append.mp m with m | m
    · exact h1 m
    · exact ne (by simpa using m)
  tab := fun q hq => (r.tab q hq).of fun a o e n _ => by
    have ne := ne_of_none e hp
    refine ⟨by rw [upd_ne ne]; exact e, fun m => ?_, id⟩
    rcases List.mem_append.mp m with m | m
    · exact n m
    · exact ne (by simpa using m)
  cell := fun n c e => by
    have sz : st.length = ρ.length := r.len.symm
    by_cases hn : n < st.length
    · rw [List.getElem?_append_left hn] at e
      obtain ⟨a, h1, h2⟩ := r.cell n c e
      obtain ⟨u, hu⟩ := h2.some
      refine ⟨a, by rw [List.getElem?_append_left (by omega)]; exact h1, h2.step' (Step.cell hp) (upd_ne (ne_of_none hu hp))⟩
    · have hn2 : n = st.length := by
        obtain ⟨l, _⟩ := List.getElem?_eq_some_iff.mp e
        simp at l
        omega
      subst hn2
      rw [List.getElem?_append_right (Nat.le_refl _)] at e
      simp at e
      subst e
      refine ⟨p, by rw [sz, List.getElem?_append_right (Nat.le_refl _)]; simp, vs, upd_same, hl, Reps.step (Step.cell hp) _ _ h⟩
/-- a cell is written -/
theorem Step.write {st : Sto} (r : RelSt K ρ H M st) {n : Nat} {a : Addr} {o : HO} (h : ρ[n]? = some a) : Step ρ H ρ (upd H a o) := ⟨List.prefix_refl _, fun b u e nb _ => ⟨by
    rw [upd_ne (fun z => nb (by rw [z]; exact List.mem_of_getElem? h))]
    exact e, nb⟩⟩
theorem RelSt.write {st : Sto} (r : RelSt K ρ H M st) {n : Nat} {a : Addr} {vs : List V} {ds : List D} (h : ρ[n]? = some a) (hl : vs.length ≤ sizeLine) (hr : Reps K ρ H ds vs) (hb : ∀ m, M m → n < m → upTos m ds = true) : RelSt K ρ (upd H a (.lst vs)) M (st.set n (.lst ds)) where
  old := fun m hm => by
    obtain ⟨h1, h2⟩ := r.old m hm
    refine ⟨by simpa using h1, fun k c hk e => ?_⟩
    by_cases hkn : k = n
    · subst hkn
      rw [List.getElem?_set_self (by omega)] at e
      cases e
      exact hb m hm hk
    · rw [List.getElem?_set_ne (Ne.symm hkn)] at e
      exact h2 k c hk e
  len := by simp [r.len]
  nd := r.nd
  rsv := fun z hz => by
    obtain ⟨h1, o, h2⟩ := r.rsv z hz
    exact ⟨h1, o, by rw [upd_ne (fun q => h1 (by rw [q]; exact List.mem_of_getElem? h))]; exact h2⟩
  tab := fun q hq => (r.tab q hq).of fun b o e nb _ => ⟨by rw [upd_ne (fun z => nb (by rw [z]; exact List.mem_of_getElem? h))]; exact e, nb, id⟩
  cell := fun m c e => by
    have s : Step ρ H ρ (upd H a (.lst vs)) := Step.write r h
    by_cases hm : m = n
    · subst hm
      obtain ⟨l, _⟩ := List.getElem?_eq_some_iff.mp h
      rw [List.getElem?_set_self (by rw [← r.len]; exact l)] at e
      cases e
      exact ⟨a, h, vs, upd_same, hl, Reps.step s _ _ hr⟩
    · rw [List.getElem?_set_ne (Ne.symm hm)] at e
      obtain ⟨b, h1, h2⟩ := r.cell m c e
      refine ⟨b, h1, h2.step' s (upd_ne fun z => hm ?_)⟩
      rw [z] at h1
      exact r.inj h1 h
mutual
/-- only the first cells are kept -/
theorem Rep.cut (n : Nat) : ∀ (d : D) (v : V), d.upTo n = true → Rep K ρ H d v → Rep K (ρ.take n) H d v
  | .no, _, _, h => h
  | .non, _, _, h => h
  | .bl _, _, _, h => h
  | .int _, _, _, h => h
  | .str _, _, _, h => h
  | .tup ds, v, b, h => by
    simp only [D.upTo] at b
    simp only [Rep] at h ⊢
    obtain ⟨a, vs, e, t, l, r⟩ := h
    refine ⟨a, vs, e, ?_, l, Reps.cut n ds vs b r⟩
    rcases t with ⟨m, z, t⟩ | t
    · exact .inl ⟨fun z => m (List.mem_of_mem_take z), z, t⟩
    · exact .inr t
  | .lst ds, v, b, h => by
    simp only [D.upTo] at b
    simp only [Rep] at h ⊢
    obtain ⟨a, vs, e, t, l, r⟩ := h
    exact ⟨a, vs, e, ⟨fun z => t.1 (List.mem_of_mem_take z), t.2⟩, l, Reps.cut n ds vs b r⟩
  | .set _, _, _, h => h
  | .scr ds, v, b, h => by
    simp only [D.upTo] at b
    simp only [Rep] at h ⊢
    obtain ⟨a, vs, e, t, l, r⟩ := h
    refine ⟨a, vs, e, ?_, l, Reps.cut n ds vs b r⟩
    rcases t with ⟨m, z, t⟩ | t
    · exact .inl ⟨fun w => m (List.mem_of_mem_take w), z, t⟩
    · exact .inr t
  | .dic ks vs, v, b, h => by
    simp only [D.upTo] at b
    simp only [Rep] at h ⊢
    obtain ⟨a, xs, us, e, h1, h2, h3, h4, h5, h6, h7⟩ := h
    exact ⟨a, xs, us, e, ⟨fun z => h1.1 (List.mem_of_mem_take z), h1.2⟩, h2, h3, h4, Reps.cut n ks _ (ba b).1 h5, h6, Reps.cut n vs us (ba b).2 h7⟩
  | .ref k, v, b, h => by
    simp only [D.upTo] at b
    simp only [Rep] at h ⊢
    obtain ⟨a, e, t⟩ := h
    refine ⟨a, e, ?_⟩
    rw [List.getElem?_take_of_lt (by simpa using b)]
    exact t
  | .lam k cap, _, b, h => by
    simp only [D.upTo] at b
    simp only [Rep] at h ⊢
    obtain ⟨f, c', σ, e, h1, h2, h3, h4, h5⟩ := h
    exact ⟨f, c', σ, e, h1, fun z => h2 (List.mem_of_mem_take z), h3, h4, RepE.cut n cap σ b h5⟩
  | .fn _, _, _, h => h
  | .ty _, _, _, h => h
theorem RepE.cut (n : Nat) : ∀ (ds : List D) (σ : List (Option V)), upTos n ds = true → RepE K ρ H ds σ → RepE K (ρ.take n) H ds σ
  | [], _, _, h => h
  | d :: ds, σ, b, h => by
    simp only [upTos] at b
    simp only [RepE] at h ⊢
    obtain ⟨o, r, e, h1, h2⟩ := h
    refine ⟨o, r, e, ?_, RepE.cut n ds r (ba b).2 h2⟩
    rcases h1 with h1 | ⟨v, h1, h3⟩
    · exact .inl h1
    · exact .inr ⟨v, h1, Rep.cut n d v (ba b).1 h3⟩
theorem Reps.cut (n : Nat) : ∀ (ds : List D) (vs : List V), upTos n ds = true → Reps K ρ H ds vs → Reps K (ρ.take n) H ds vs
  | [], _, _, h => h
  | d :: ds, vs, b, h => by
    simp only [upTos] at b
    simp only [Reps] at h ⊢
    obtain ⟨v, r, e, h1, h2⟩ := h
    exact ⟨v, r, e, Rep.cut n d v (ba b).1 h1, Reps.cut n ds r (ba b).2 h2⟩
end
mutual
theorem Rep.upTo : ∀ (d : D) (v : V), Rep K ρ H d v → d.upTo ρ.length = true
  | .no, _, h => h.elim
  | .non, _, _ => rfl
  | .bl _, _, _ => rfl
  | .int _, _, _ => rfl
  | .str _, _, _ => rfl
  | .tup ds, v, h => by
    simp only [Rep] at h
    obtain ⟨_, vs, _, _, _, r⟩ := h
    simp only [D.upTo]
    exact Reps.upTo ds vs r
  | .lst ds, v, h => by
    simp only [Rep] at h
    obtain ⟨_, vs, _, _, _, r⟩ := h
    simp only [D.upTo]
    exact Reps.upTo ds vs r
  | .set _, _, h => h.elim
  | .scr ds, v, h => by
    simp only [Rep] at h
    obtain ⟨_, vs, _, _, _, r⟩ := h
    simp only [D.upTo]
    exact Reps.upTo ds vs r
  | .dic ks vs, v, h => by
    simp only [Rep] at h
    obtain ⟨a, xs, us, e, h1, h2, h3, h4, h5, h6, h7⟩ := h
    simp only [D.upTo]
    rw [Reps.upTo ks _ h5, Reps.upTo vs us h7]
    rfl
  | .ref k, v, h => by
    simp only [Rep] at h
    obtain ⟨a, _, t⟩ := h
    obtain ⟨l, _⟩ := List.getElem?_eq_some_iff.mp t
    simp only [D.upTo]
    simpa using l
  | .lam k cap, _, h => by
    simp only [Rep] at h
    obtain ⟨f, c', σ, e, h1, h2, h3, h4, h5⟩ := h
    simp only [D.upTo]
    exact RepE.upTo cap σ h5
  | .fn _, _, h => h.elim
  | .ty _, _, _ => rfl
theorem RepE.upTo : ∀ (ds : List D) (σ : List (Option V)), RepE K ρ H ds σ → upTos ρ.length ds = true
  | [], _, _ => rfl
  | d :: ds, σ, h => by
    simp only [RepE] at h
    obtain ⟨o, r, _, h1, h2⟩ := h
    simp only [upTos]
    rw [RepE.upTo ds r h2]
    rcases h1 with h1 | ⟨v, _, h3⟩
    · subst h1
      rfl
    · rw [Rep.upTo d v h3]
      rfl
theorem Reps.upTo : ∀ (ds : List D) (vs : List V), Reps K ρ H ds vs → upTos ρ.length ds = true
  | [], _, _ => rfl
  | d :: ds, vs, h => by
    simp only [Reps] at h
    obtain ⟨v, r, _, h1, h2⟩ := h
    simp only [upTos]
    rw [Rep.upTo d v h1, Reps.upTo ds r h2]
    rfl
end
theorem CellRep.upTo {a : Addr} {c : Cell} (h : CellRep K ρ H a c) : c.upTo ρ.length = true := by
  cases c with
  | lst ds =>
    obtain ⟨vs, _, _, h3⟩ := h
    exact Reps.upTo _ _ h3
  | dic _ => exact h.elim
  | set _ => exact h.elim
  | ins _ _ => exact h.elim
theorem CellRep.cut {n : Nat} {a : Addr} {c : Cell} (b : c.upTo n = true) (h : CellRep K ρ H a c) : CellRep K (ρ.take n) H a c := by
  cases c with
  | lst ds =>
    obtain ⟨vs, h1, h2, h3⟩ := h
    exact ⟨vs, h1, h2, Reps.cut n _ _ b h3⟩
  | dic _ => exact h.elim
  | set _ => exact h.elim
  | ins _ _ => exact h.elim
/-- a callee's frame begins -/
theorem RelSt.enter {st : Sto} (r : RelSt K ρ H M st) : RelSt K ρ H (fun m => M m ∨ m = st.length) st where
  old := fun m hm => by
    rcases hm with hm | hm
    · exact r.old m hm
    · subst hm
      refine ⟨Nat.le_refl _, fun k c _ e => ?_⟩
      obtain ⟨a, _, h2⟩ := r.cell k c e
      have := h2.upTo
      rw [r.len] at this
      exact this
  len := r.len
  nd := r.nd
  rsv := r.rsv
  tab := r.tab
  cell := r.cell
/-- .. and ends: its cells go -/
theorem RelSt.leave {st st1 : Sto} {n : Nat} (r : RelSt K ρ H (fun m => M m ∨ m = n) st) (hM : ∀ m, M m → m ≤ n) : RelSt K (ρ.take n) H M (st.take n) where
  old := fun m hm => by
    obtain ⟨h1, h2⟩ := r.old m (.inl hm)
    obtain ⟨h3, _⟩ := r.old n (.inr rfl)
    have := hM m hm
    refine ⟨by simp; omega, fun k c hk e => h2 k c hk ?_⟩
    rw [List.getElem?_take_of_lt (by omega)] at e
    exact e
  len := by simp [r.len]
  nd := r.nd.sublist (List.take_sublist _ _)
  rsv := fun z hz => ⟨fun m => (r.rsv z hz).1 (List.mem_of_mem_take m), (r.rsv z hz).2⟩
  tab := fun q hq => (r.tab q hq).of fun b o e nb _ => ⟨e, fun m => nb (List.mem_of_mem_take m), id⟩
  cell := fun k c e => by
    have hk : k < n := by
      obtain ⟨l, _⟩ := List.getElem?_eq_some_iff.mp e
      simp at l
      omega
    rw [List.getElem?_take_of_lt hk] at e
    obtain ⟨a, h1, h2⟩ := r.cell k c e
    exact ⟨a, by rw [List.getElem?_take_of_lt hk]; exact h1, h2.cut ((r.old n (.inr rfl)).2 k c hk e)⟩
theorem Step.cut {n : Nat} (s : Step ρ H ρ1 H1) (hn : ρ.length ≤ n) : Step ρ H (ρ1.take n) H1 := ⟨by
    obtain ⟨⟨t, rfl⟩, _⟩ := s
    exact List.prefix_iff_eq_take.mpr (by rw [List.take_take, Nat.min_eq_left hn]; simp), fun a o h na t => ⟨(s.2 a o h na t).1, fun m => (s.2 a o h na t).2 (List.mem_of_mem_take m)⟩⟩
theorem RelSt.freshZ {st : Sto} (r : RelSt K ρ H M st) {a : Addr} (h : H a = none) : a ∉ K.z.l := fun m => by
  obtain ⟨_, o, e⟩ := r.rsv a m
  rw [h] at e
  cases e
/-- the heap grows -/
def Grow (H H1 : Hp) : Prop := ∀ a o, H a = some o → H1 a = some o
theorem Grow.step (g : Grow H H1) : Step ρ H ρ H1 := ⟨List.prefix_refl _, fun a o h n _ => ⟨g a o h, n⟩⟩
theorem RelSt.grow {st : Sto} (r : RelSt K ρ H M st) (g : Grow H H1) : RelSt K ρ H1 M st := ⟨r.old, r.len, r.nd, fun z hz => ⟨(r.rsv z hz).1, (r.rsv z hz).2.elim fun o e => ⟨o, g _ _ e⟩⟩, fun q hq => (r.tab q hq).of fun b o e nb _ => ⟨g _ _ e, nb, id⟩, fun n c e => by
  obtain ⟨a, h1, h2⟩ := r.cell n c e
  obtain ⟨u, hu⟩ := h2.some
  exact ⟨a, h1, h2.step' (Grow.step g) (by rw [g _ _ hu, hu])⟩⟩
end
/-! ### a list in the making -/
/-- all but p -/
def hide (H : Hp) (p : Addr) : Hp := fun b => if b = p then none else H b
theorem hide_same {H : Hp} {p : Addr} : hide H p p = none := if_pos rfl
theorem hide_ne {H : Hp} {p b : Addr} (h : b ≠ p) : hide H p b = H b := if_neg h
theorem upd_hide {H : Hp} {p : Addr} {o : HO} (h : H p = some o) : upd (hide H p) p o = H := by
  funext b
  by_cases e : b = p
  · rw [e, upd_same, h]
  · rw [upd_ne e, hide_ne e]
theorem hide_upd {H : Hp} {p : Addr} {o : HO} (h : H p = none) : hide (upd H p o) p = H := by
  funext b
  by_cases e : b = p
  · rw [e, hide_same, h]
  · rw [hide_ne e, upd_ne e]
section
variable {F : Fw} {ζ : Zt} {p : Addr} {ρ : List Addr} {H : Hp} {M : Nat → Prop}
theorem rd_hide {a : Addr} {u : HO} (h : Rd H a u) (n : a ≠ p) : Rd (hide H p) a u := by
  rcases h with h | ⟨o, h⟩
  · exact .inl (by rw [hide_ne n]; exact h)
  · exact .inr ⟨o, by rw [hide_ne n]; exact h⟩
mutual
theorem Rep.hide : ∀ (d : D) (v : V), Rep (kz F (ζ.add p)) ρ H d v → Rep (kz F ζ) ρ (hide H p) d v
  | .no, _, h => h
  | .non, _, h => h
  | .bl _, _, h => h
  | .int _, _, h => h
  | .str _, _, h => h
  | .tup ds, v, h => by
    simp only [Rep] at h ⊢
    obtain ⟨a, vs, e, t, l, r⟩ := h
    refine ⟨a, vs, e, ?_, l, Reps.hide ds vs r⟩
    rcases t with ⟨m, z, t⟩ | t
    · have z' : a ≠ p ∧ a ∉ ζ.l := by simpa using z
      exact .inl ⟨m, z'.2, rd_hide t z'.1⟩
    · exact .inr t
  | .lst ds, v, h => by
    simp only [Rep] at h ⊢
    obtain ⟨a, vs, e, ⟨m, z, t⟩, l, r⟩ := h
    have z' : a ≠ p ∧ a ∉ ζ.l := by simpa using z
    exact ⟨a, vs, e, ⟨m, z'.2, by rw [hide_ne z'.1]; exact t⟩, l, Reps.hide ds vs r⟩
  | .set _, _, h => h
  | .scr ds, v, h => by
    simp only [Rep] at h ⊢
    obtain ⟨a, vs, e, t, l, r⟩ := h
    refine ⟨a, vs, e, ?_, l, Reps.hide ds vs r⟩
    rcases t with ⟨m, z, t⟩ | t
    · have z' : a ≠ p ∧ a ∉ ζ.l := by simpa using z
      exact .inl ⟨m, z'.2, rd_hide t z'.1⟩
    · exact .inr t
  | .dic ks vs, v, h => by
    simp only [Rep] at h ⊢
    obtain ⟨a, xs, us, e, h1, h2, h3, h4, h5, h6, h7⟩ := h
    have z' : a ≠ p ∧ a ∉ ζ.l := by simpa using h1.2
    exact ⟨a, xs, us, e, ⟨h1.1, z'.2⟩, by rw [hide_ne z'.1]; exact h2, h3, h4, Reps.hide ks _ h5, h6, Reps.hide vs us h7⟩
  | .ref n, v, h => by
    simp only [Rep] at h ⊢
    exact h
  | .lam k cap, v, h => by
    simp only [Rep] at h ⊢
    obtain ⟨f, c', σ, e, h1, h2, h3, h4, h5⟩ := h
    have z' : c' ≠ p ∧ c' ∉ ζ.l := by simpa using h3
    exact ⟨f, c', σ, e, h1, h2, z'.2, by rw [hide_ne z'.1]; exact h4, RepE.hide cap σ h5⟩
  | .fn _, _, h => h
  | .ty _, _, h => h
theorem RepE.hide : ∀ (ds : List D) (σ : List (Option V)), RepE (kz F (ζ.add p)) ρ H ds σ → RepE (kz F ζ) ρ (hide H p) ds σ
  | [], _, h => h
  | d :: ds, σ, h => by
    simp only [RepE] at h ⊢
    obtain ⟨o, r, e, h1, h2⟩ := h
    refine ⟨o, r, e, ?_, RepE.hide ds r h2⟩
    rcases h1 with h1 | ⟨v, h1, h3⟩
    · exact .inl h1
    · exact .inr ⟨v, h1, Rep.hide d v h3⟩
theorem Reps.hide : ∀ (ds : List D) (vs : List V), Reps (kz F (ζ.add p)) ρ H ds vs → Reps (kz F ζ) ρ (hide H p) ds vs
  | [], _, h => h
  | d :: ds, vs, h => by
    simp only [Reps] at h ⊢
    obtain ⟨v, r, e, h1, h2⟩ := h
    exact ⟨v, r, e, Rep.hide d v h1, Reps.hide ds r h2⟩
end
mutual
/-- a list is laid: what stood keeps apart from it -/
theorem Rep.show (hp : H p = none) {o : HO} : ∀ (d : D) (v : V), Rep (kz F ζ) ρ H d v → Rep (kz F (ζ.add p)) ρ (upd H p o) d v
  | .no, _, h => h
  | .non, _, h => h
  | .bl _, _, h => h
  | .int _, _, h => h
  | .str _, _, h => h
  | .tup ds, v, h => by
    simp only [Rep] at h ⊢
    obtain ⟨a, vs, e, t, l, r⟩ := h
    refine ⟨a, vs, e, ?_, l, Reps.show hp ds vs r⟩
    rcases t with ⟨m, z, t⟩ | t
    · have n : a ≠ p := by
        rcases t with t | ⟨_, t⟩ <;> exact ne_of_none t hp
      refine .inl ⟨m, by simpa using ⟨n, z⟩, ?_⟩
      rcases t with t | ⟨o, t⟩
      · exact .inl (by rw [upd_ne n]; exact t)
      · exact .inr ⟨o, by rw [upd_ne n]; exact t⟩
    · exact .inr t
  | .lst ds, v, h => by
    simp only [Rep] at h ⊢
    obtain ⟨a, vs, e, ⟨m, z, t⟩, l, r⟩ := h
    have n : a ≠ p := ne_of_none t hp
    exact ⟨a, vs, e, ⟨m, by simpa using ⟨n, z⟩, by rw [upd_ne n]; exact t⟩, l, Reps.show hp ds vs r⟩
  | .set _, _, h => h
  | .scr ds, v, h => by
    simp only [Rep] at h ⊢
    obtain ⟨a, vs, e, t, l, r⟩ := h
    refine ⟨a, vs, e, ?_, l, Reps.show hp ds vs r⟩
    rcases t with ⟨m, z, t⟩ | t
    · have n : a ≠ p := by
        rcases t with t | ⟨_, t⟩ <;> exact ne_of_none t hp
      refine .inl ⟨m, by simpa using ⟨n, z⟩, ?_⟩
      rcases t with t | ⟨o, t⟩
      · exact .inl (by rw [upd_ne n]; exact t)
      · exact .inr ⟨o, by rw [upd_ne n]; exact t⟩
    · exact .inr t
  | .dic ks vs, v, h => by
    simp only [Rep] at h ⊢
    obtain ⟨a, xs, us, e, h1, h2, h3, h4, h5, h6, h7⟩ := h
    have n : a ≠ p := ne_of_none h2 hp
    exact ⟨a, xs, us, e, ⟨h1.1, by simpa using ⟨n, h1.2⟩⟩, by rw [upd_ne n]; exact h2, h3, h4, Reps.show hp ks _ h5, h6, Reps.show hp vs us h7⟩
  | .ref n, v, h => by
    simp only [Rep] at h ⊢
    exact h
  | .lam k cap, v, h => by
    simp only [Rep] at h ⊢
    obtain ⟨f, c', σ, e, h1, h2, h3, h4, h5⟩ := h
    have n : c' ≠ p := ne_of_none h4 hp
    exact ⟨f, c', σ, e, h1, h2, by simpa using ⟨n, h3⟩, by rw [upd_ne n]; exact h4, RepE.show hp cap σ h5⟩
  | .fn _, _, h => h
  | .ty _, _, h => h
theorem RepE.show (hp : H p = none) {o : HO} : ∀ (ds : List D) (σ : List (Option V)), RepE (kz F ζ) ρ H ds σ → RepE (kz F (ζ.add p)) ρ (upd H p o) ds σ
  | [], _, h => h
  | d :: ds, σ, h => by
    simp only [RepE] at h ⊢
    obtain ⟨u, r, e, h1, h2⟩ := h
    refine ⟨u, r, e, ?_, RepE.show hp ds r h2⟩
    rcases h1 with h1 | ⟨v, h1, h3⟩
    · exact .inl h1
    · exact .inr ⟨v, h1, Rep.show hp d v h3⟩
theorem Reps.show (hp : H p = none) {o : HO} : ∀ (ds : List D) (vs : List V), Reps (kz F ζ) ρ H ds vs → Reps (kz F (ζ.add p)) ρ (upd H p o) ds vs
  | [], _, h => h
  | d :: ds, vs, h => by
    simp only [Reps] at h ⊢
    obtain ⟨v, r, e, h1, h2⟩ := h
    exact ⟨v, r, e, Rep.show hp d v h1, Reps.show hp ds r h2⟩
end
theorem CellRep.hide {a : Addr} {c : Cell} (n : a ≠ p) (h : CellRep (kz F (ζ.add p)) ρ H a c) : CellRep (kz F ζ) ρ (Ev.hide H p) a c := by
  cases c with
  | lst ds =>
    obtain ⟨vs, h1, h2, h3⟩ := h
    exact ⟨vs, by rw [hide_ne n]; exact h1, h2, Reps.hide _ _ h3⟩
  | dic _ => exact h
  | set _ => exact h
  | ins _ _ => exact h
theorem CellRep.show {a : Addr} {c : Cell} {o : HO} (hp : H p = none) (h : CellRep (kz F ζ) ρ H a c) : CellRep (kz F (ζ.add p)) ρ (upd H p o) a c := by
  cases c with
  | lst ds =>
    obtain ⟨vs, h1, h2, h3⟩ := h
    exact ⟨vs, by rw [upd_ne (ne_of_none h1 hp)]; exact h1, h2, Reps.show hp _ _ h3⟩
  | dic _ => exact h
  | set _ => exact h
  | ins _ _ => exact h
theorem RelSt.hide {st : Sto} (r : RelSt (kz F (ζ.add p)) ρ H M st) (hz : p ∉ ζ.l) : RelSt (kz F ζ) ρ (Ev.hide H p) M st where
  old := r.old
  len := r.len
  nd := r.nd
  rsv := fun z hm => by
    obtain ⟨h1, o, h2⟩ := r.rsv z (List.mem_cons_of_mem _ hm)
    have n : z ≠ p := fun e => hz (e ▸ hm)
    exact ⟨h1, o, by rw [hide_ne n]; exact h2⟩
  tab := fun q hq => (r.tab q hq).of fun b o e nb nl => by
    obtain ⟨_, vs, hv⟩ := r.rsv p List.mem_cons_self
    have n : b ≠ p := fun z => by
      rw [z, hv] at e
      exact nl vs (Option.some.inj e).symm
    exact ⟨by rw [hide_ne n]; exact e, nb, fun m z => m (List.mem_cons_of_mem _ z)⟩
  cell := fun n c e => by
    obtain ⟨a, h1, h2⟩ := r.cell n c e
    have hn : a ≠ p := fun q => (r.rsv p List.mem_cons_self).1 (by rw [← q]; exact List.mem_of_getElem? h1)
    exact ⟨a, h1, h2.hide hn⟩
theorem RelSt.show {st : Sto} {vs : List V} (r : RelSt (kz F ζ) ρ H M st) (hp : H p = none) : RelSt (kz F (ζ.add p)) ρ (upd H p (.lst vs)) M st where
  old := r.old
  len := r.len
  nd := r.nd
  rsv := fun z hm => by
    rcases List.mem_cons.mp hm with e | hm
    · subst e
      exact ⟨r.fresh hp, vs, upd_same⟩
    · obtain ⟨h1, u, h2⟩ := r.rsv z hm
      exact ⟨h1, u, by rw [upd_ne (ne_of_none h2 hp)]; exact h2⟩
  tab := fun q hq => (r.tab q hq).of fun b o e nb _ => ⟨by rw [upd_ne (ne_of_none e hp)]; exact e, nb, fun m z => by
    rcases List.mem_cons.mp z with z | z
    · exact ne_of_none e hp z
    · exact m z⟩
  cell := fun n c e => by
    obtain ⟨a, h1, h2⟩ := r.cell n c e
    exact ⟨a, h1, h2.show hp⟩
/-- what stood ahead of p's making still stands -/
theorem Step.hide {ρ1 : List Addr} {H1 : Hp} {o : HO} (hp : H p = none) (s : Step ρ (upd H p o) ρ1 H1) : Step ρ H ρ1 (Ev.hide H1 p) := ⟨s.1, fun a u e n t => by
  have ne := ne_of_none e hp
  obtain ⟨h1, h2⟩ := s.2 a u (by rw [upd_ne ne]; exact e) n t
  exact ⟨by rw [hide_ne ne]; exact h1, h2⟩⟩
end
end Ev

end
section
set_option Elab.async false
set_option linter.all false
set_option maxRecDepth 100000
set_option autoImplicit false
set_option maxHeartbeats 1000000
/-! EvD: what an evaluation's outcome is worth; operators. -/
namespace Ev
open PySem L2

section
variable {α β γ δ : Type}
/-- every way in which the heap may bear the outcome leads to what is wanted -/
def Out (K : KZ) (M : Nat → Prop) (Rl : List Addr → Hp → α → β → Prop) (Er : Nat → D → List Addr → Hp → Prop) (ρ : List Addr) (H : Hp) (r : Rz α) (Q : β → Hp → Prop) : Prop := match r with
  | .ok d st' => ∀ v ρ' H', Step ρ H ρ' H' → RelSt K ρ' H' M st' → Rl ρ' H' d v → Q v H'
  | .er c w st' => ∀ ρ' H', Step ρ H ρ' H' → RelSt K ρ' H' M st' → Er c w ρ' H'
  | .no => False
variable {K : KZ} {M : Nat → Prop} {Rl : List Addr → Hp → α → β → Prop} {Rl' : List Addr → Hp → γ → δ → Prop} {Er : Nat → D → List Addr → Hp → Prop} {ρ ρ1 : List Addr} {H H1 : Hp}
theorem Out.step (s : Step ρ H ρ1 H1) {r : Rz α} {Q : β → Hp → Prop} (h : Out K M Rl Er ρ H r Q) : Out K M Rl Er ρ1 H1 r Q := by
  cases r with
  | ok d st' => exact fun v ρ' H' s' => h v ρ' H' (s.trans s')
  | er c w st' => exact fun ρ' H' s' => h ρ' H' (s.trans s')
  | no => exact h
theorem Out.bind {x : Rz α} {f : α → Sto → Rz γ} {Q : δ → Hp → Prop} {Q1 : β → Hp → Prop} (h : Out K M Rl' Er ρ H (x.bind f) Q)
    (g : ∀ d st1 v ρ1 H1, Step ρ H ρ1 H1 → RelSt K ρ1 H1 M st1 → Rl ρ1 H1 d v → Out K M Rl' Er ρ1 H1 (f d st1) Q → Q1 v H1) : Out K M Rl Er ρ H x Q1 := by
  cases x with
  | ok d st' => exact fun v ρ' H' s r rl => g d st' v ρ' H' s r rl (Out.step s h)
  | er c w st' => exact h
  | no => exact h
theorem Out.val {d : α} {st : Sto} {v : β} {Q : β → Hp → Prop} (h : Out K M Rl Er ρ H (.ok d st) Q) (rs : RelSt K ρ H M st) (r : Rl ρ H d v) : Q v H := h v ρ H Step.refl rs r
end

abbrev E0' : Nat → D → List Addr → Hp → Prop := fun _ _ _ _ => False
section
variable {K : KZ} {M : Nat → Prop} {ρ ρ1 : List Addr} {H H1 : Hp} {st : Sto}
theorem Rep.tupNew {p : Addr} {vs : List V} {ds : List D} (rs : RelSt K ρ H M st) (hp : H p = none) (hl : vs.length ≤ sizeLine) (r : Reps K ρ H ds vs) : Rep K ρ (upd H p (.tup vs)) (.tup ds) (.ref p) := by
  simp only [Rep]
  exact ⟨p, vs, rfl, .inl ⟨rs.fresh hp, rs.freshZ hp, .inl upd_same⟩, hl, Reps.step (Step.new hp) _ _ r⟩
theorem Rep.lstNew {p : Addr} {vs : List V} {ds : List D} (rs : RelSt K ρ H M st) (hp : H p = none) (hl : vs.length ≤ sizeLine) (r : Reps K ρ H ds vs) : Rep K ρ (upd H p (.lst vs)) (.lst ds) (.ref p) := by
  simp only [Rep]
  exact ⟨p, vs, rfl, ⟨rs.fresh hp, rs.freshZ hp, upd_same⟩, hl, Reps.step (Step.new hp) _ _ r⟩
theorem TupAt.sq {a : Addr} {vs : List V} (h : TupAt K ρ H a vs) : SqT K.K H a vs := by
  rcases h with h | h
  · exact .inl h.2.2
  · exact .inr h
theorem rep_int {i : Int} {v : V} (h : Rep K ρ H (.int i) v) : v = .int i := by simpa [Rep] using h
theorem rep_bl {i : Bool} {v : V} (h : Rep K ρ H (.bl i) v) : v = .bl i := by simpa [Rep] using h
theorem rep_str {i : Str} {v : V} (h : Rep K ρ H (.str i) v) : v = .str i := by simpa [Rep] using h
theorem rep_non {v : V} (h : Rep K ρ H .non v) : v = .non := by simpa [Rep] using h
theorem rep_tup {ds : List D} {v : V} (h : Rep K ρ H (.tup ds) v) : ∃ a vs, v = .ref a ∧ TupAt K ρ H a vs ∧ vs.length ≤ sizeLine ∧ Reps K ρ H ds vs := by simpa [Rep] using h
theorem rep_lst {ds : List D} {v : V} (h : Rep K ρ H (.lst ds) v) : ∃ a vs, v = .ref a ∧ LstAt K ρ H a vs ∧ vs.length ≤ sizeLine ∧ Reps K ρ H ds vs := by simpa [Rep] using h
theorem rep_scr {ds : List D} {v : V} (h : Rep K ρ H (.scr ds) v) : ∃ a vs, v = .ref a ∧ ScrAt K ρ H a vs ∧ vs.length ≤ sizeLine ∧ Reps K ρ H ds vs := by simpa [Rep] using h
theorem rep_ref {n : Nat} {v : V} (h : Rep K ρ H (.ref n) v) : ∃ a, v = .ref a ∧ ρ[n]? = some a := by simpa [Rep] using h
theorem rep_ty {n : String} {v : V} (h : Rep K ρ H (.ty n) v) : v = .ty n := by simpa [Rep] using h
theorem mk_int {i : Int} : Rep K ρ H (.int i) (.int i) := by simp [Rep]
theorem mk_bl {i : Bool} : Rep K ρ H (.bl i) (.bl i) := by simp [Rep]
theorem mk_str {i : Str} : Rep K ρ H (.str i) (.str i) := by simp [Rep]
theorem mk_non : Rep K ρ H .non .non := by simp [Rep]
theorem mk_ty {n : String} : Rep K ρ H (.ty n) (.ty n) := by simp [Rep]
/-- a list that is tracked, a cell's or an immutable one -/
theorem lst_of {d : D} {v : V} {ds : List D} (rs : RelSt K ρ H M st) (r : Rep K ρ H d v) (e : litems st d = some ds) : ∃ a vs, v = .ref a ∧ H a = some (.lst vs) ∧ vs.length ≤ sizeLine ∧ Reps K ρ H ds vs := by
  unfold litems at e
  split at e
  · cases e
    obtain ⟨a, vs, h1, h2, h3, h4⟩ := rep_lst r
    exact ⟨a, vs, h1, h2.2.2, h3, h4⟩
  · rename_i n
    split at e
    · rename_i es hc
      cases e
      obtain ⟨a, h1, h2⟩ := rep_ref r
      obtain ⟨a', h3, vs, h4, h5, h6⟩ := rs.cell n _ hc
      rw [h2] at h3
      cases h3
      exact ⟨a, vs, h1, h4, h5, h6⟩
    · cases e
  · cases e
theorem seq_of {d : D} {v : V} {ds : List D} (rs : RelSt K ρ H M st) (r : Rep K ρ H d v) (e : items st d = some ds) : ∃ a vs, v = .ref a ∧ (SqL K.K H a vs ∨ SqT K.K H a vs) ∧ vs.length ≤ sizeLine ∧ Reps K ρ H ds vs := by
  cases d with
  | tup es =>
    cases e
    obtain ⟨a, vs, h1, h2, h3, h4⟩ := rep_tup r
    exact ⟨a, vs, h1, .inr h2.sq, h3, h4⟩
  | lst es =>
    cases e
    obtain ⟨a, vs, h1, h2, h3, h4⟩ := rep_lst r
    exact ⟨a, vs, h1, .inl (.of h2.2.2), h3, h4⟩
  | scr es =>
    cases e
    obtain ⟨a, vs, h1, h2, h3, h4⟩ := rep_scr r
    exact ⟨a, vs, h1, .inl h2.sq, h3, h4⟩
  | ref n =>
    obtain ⟨a, vs, h1, h2, h3, h4⟩ := lst_of (d := .ref n) rs r e
    exact ⟨a, vs, h1, .inl (.of h2), h3, h4⟩
  | _ => cases e

def rD (K : Fw) (M : Nat → Prop) (f : Sto → D → D → Rz D) : R2 := fun x y H Q => ∃ ζ ρ st a b, RelSt (kz K ζ) ρ H M st ∧ Rep (kz K ζ) ρ H a x ∧ Rep (kz K ζ) ρ H b y ∧ Out (kz K ζ) M (Rep (kz K ζ)) E0' ρ H (f st a b) Q
end
theorem fit_le {n : Nat} (h : fit n = true) : n ≤ sizeLine := of_decide_eq_true h
theorem small_ok {i : Int} (h : small i = true) : -(2 ^ 64) < i ∧ i < 2 ^ 64 := by
  obtain ⟨a, b⟩ := ba h
  exact ⟨by simpa using of_decide_eq_true a, by simpa using of_decide_eq_true b⟩
def opOf : Bop → Operator
  | .add => .Add | .sub => .Sub | .mul => .Mult | .fdiv => .FloorDiv | .mod => .Mod | .pow => .Pow | .shl => .LShift | .shr => .RShift | .band => .BitAnd | .bor => .BitOr
section
variable {X : L2.Cx}
theorem op_arith {op : Bop} {i j z : Int} {Q : VK} {H : Hp} {pins : List (Addr × Obj)} {s : Shared} {σ : L2.St} {v u : Value} (I : Inv X pins σ H s) (rx : RelV (.int i) v) (ry : RelV (.int j) u) (e : arith op i j = some z) (q : Q (.int z) H) :
    wpAny (model X.prog X.w) X.A (binaryOp (opOf op) v u) (EP X pins σ Q) X.xe s := by
  unfold arith at e
  cases op with
  | add =>
    cases e
    exact op_add pins s σ H _ _ v u Q I rx ry ⟨i, j, rfl, rfl, q⟩
  | sub =>
    cases e
    exact op_sub pins s σ H _ _ v u Q I rx ry ⟨i, j, rfl, rfl, q⟩
  | mul =>
    cases hb : small i || small j with
    | false => simp [hb] at e
    | true =>
      simp [hb] at e
      subst e
      refine op_mul pins s σ H _ _ v u Q I rx ry ⟨i, j, rfl, rfl, ?_, q⟩
      rcases Bool.or_eq_true_iff.mp hb with h | h
      · exact .inl (small_ok h)
      · exact .inr (small_ok h)
  | fdiv =>
    cases hb : !(j == 0) && decide (j.natAbs < 1073741824) with
    | false => simp [hb] at e
    | true =>
      obtain ⟨h1, h2⟩ := ba hb
      simp [hb] at e
      subst e
      exact op_fdivN pins s σ H _ _ v u Q I rx ry ⟨i, j, rfl, rfl, ⟨by simpa using h1, of_decide_eq_true h2⟩, q⟩
  | mod =>
    cases hb : !(j == 0) with
    | false => simp [hb] at e
    | true =>
      simp [hb] at e
      subst e
      exact op_modN pins s σ H _ _ v u Q I rx ry ⟨i, j, rfl, rfl, by simpa using hb, q⟩
  | pow =>
    cases hb : decide (0 ≤ j) && decide (j ≤ 1000000) && small i with
    | false => simp [hb] at e
    | true =>
      obtain ⟨h1, h2⟩ := ba hb
      obtain ⟨h3, h4⟩ := ba h1
      have h5 := small_ok h2
      simp [hb] at e
      subst e
      exact op_pow pins s σ H _ _ v u Q I rx ry ⟨i, j, rfl, rfl, ⟨of_decide_eq_true h3, of_decide_eq_true h4, by omega⟩, q⟩
  | shl =>
    cases hb : decide (0 ≤ j) && decide (j ≤ 1000000) && small i with
    | false => simp [hb] at e
    | true =>
      obtain ⟨h1, h2⟩ := ba hb
      obtain ⟨h3, h4⟩ := ba h1
      have h5 := small_ok h2
      simp [hb] at e
      subst e
      exact op_shl pins s σ H _ _ v u Q I rx ry ⟨i, j, rfl, rfl, ⟨of_decide_eq_true h3, of_decide_eq_true h4, by omega⟩, q⟩
  | shr =>
    cases hb : decide (0 ≤ j) with
    | false => simp [hb] at e
    | true =>
      simp [hb] at e
      subst e
      exact op_shr pins s σ H _ _ v u Q I rx ry ⟨i, j, rfl, rfl, of_decide_eq_true hb, q⟩
  | band =>
    cases e
    exact op_and pins s σ H _ _ v u Q I rx ry ⟨i, j, rfl, rfl, q⟩
  | bor =>
    cases e
    exact op_or pins s σ H _ _ v u Q I rx ry ⟨i, j, rfl, rfl, q⟩
theorem Reps.rep {K : KZ} {ρ : List Addr} {H : Hp} {ds : List D} {vs : List V} (h : Reps K ρ H ds vs) : ∀ n : Nat, Reps K ρ H (List.replicate n ds).flatten (List.replicate n vs).flatten
  | 0 => by simp [Reps]
  | n + 1 => by
    rw [List.replicate_succ, List.replicate_succ, List.flatten_cons, List.flatten_cons]
    exact Reps.append h (Reps.rep h n)
theorem len_rep {α : Type} (xs : List α) (n : Nat) : (List.replicate n xs).flatten.length = n * xs.length := PyProof.Rows.lm_len_rep_flat _ _
end
end Ev

end
section
set_option Elab.async false
set_option linter.all false
set_option maxRecDepth 100000
set_option autoImplicit false
set_option maxHeartbeats 4000000
namespace Ev
open PySem L2 PySem.Spec PyProof.Rows
theorem tuple_mul_same (l : Addr) (items : Array Value) (n : Nat) (dd : Option Addr) (sl : Array (Option Value)) (x : Int) (u : Tok) (c0 : (decide (x < -(2 ^ 63)) || decide (x ≥ 2 ^ 63)) = false) (c1 : (items.isEmpty || x == 1) = true) :
    Meets (Builtin.«tuple.__mul__» ⟨[.ref l, .int x u], []⟩) (fun _ R s => s.heap.get? l = some { cls := .type "tuple", dict := dd, data := .seq items n, slots := sl } ∧ R (.ok (.ret (Value.ref l))) s) :=
  .of_wp fun prog w A R s h => by
    obtain ⟨hp, g, d, tk, os⟩ := s
    obtain ⟨hl, h⟩ := h
    have f1 := AutoSeq1.idx_int
    have f2 := AutoSeq1.sub_tuple_tuple
    wp_walk using wpAny_loadPart' hl
    repeat (first
      | (refine wpAny_ite_false (decide_eq_false (by rw [c0]; exact Bool.false_ne_true)) ?_; wp_walk using wpAny_loadPart' hl)
      | (refine wpAny_ite_true (decide_eq_true c1) ?_; wp_walk using wpAny_loadPart' hl))
    exact ⟨_, rfl, h⟩
theorem tuple_mul_none (l : Addr) (items : Array Value) (n : Nat) (dd : Option Addr) (sl : Array (Option Value)) (x : Int) (u : Tok) (c0 : (decide (x < -(2 ^ 63)) || decide (x ≥ 2 ^ 63)) = false) (c1 : (items.isEmpty || x == 1) = false) (c2 : (decide (x ≤ 0) || items.isEmpty) = true) :
    Meets (Builtin.«tuple.__mul__» ⟨[.ref l, .int x u], []⟩) (fun _ R s => s.heap.get? l = some { cls := .type "tuple", dict := dd, data := .seq items n, slots := sl } ∧
      R (.ok (.ret (Value.ref s.heap.objs.size))) { s with heap := s.heap.push { cls := Value.type "tuple", data := Data.seq #[] }, toks := s.toks }) :=
  .of_wp fun prog w A R s h => by
    obtain ⟨hp, g, d, tk, os⟩ := s
    obtain ⟨hl, h⟩ := h
    have f1 := AutoSeq1.idx_int
    wp_walk using wpAny_loadPart' hl
    repeat (first
      | (refine wpAny_ite_false (decide_eq_false (by rw [c0]; exact Bool.false_ne_true)) ?_; wp_walk using wpAny_loadPart' hl)
      | (refine wpAny_ite_false (decide_eq_false (by rw [c1]; exact Bool.false_ne_true)) ?_; wp_walk using wpAny_loadPart' hl)
      | (refine wpAny_ite_true (decide_eq_true c2) ?_; wp_walk using wpAny_loadPart' hl))
    exact ⟨_, rfl, h⟩

def rRepA (K : PySem.W.Frag) : R2 := fun x y H Q => ∃ l k xs, x = .ref l ∧ y = .int k ∧ SqT K H l xs ∧ -(2 ^ 62) ≤ k ∧ k < 2 ^ 62 ∧ xs.length * k.toNat ≤ sizeLine ∧
  (xs = [] ∨ k = 1 → Q (.ref l) H) ∧ (xs ≠ [] → k ≤ 0 → ∀ p, H p = none → Q (.ref p) (upd H p (.tup []))) ∧ (xs ≠ [] → 2 ≤ k → ∀ p, H p = none → Q (.ref p) (upd H p (.tup (List.replicate k.toNat xs).flatten)))
section
variable {X : L2.Cx}
theorem op_repA : OpR X (binaryOp .Mult) (rRepA X.K) := by
  intro pins s σ H x y v u Q I rx ry h
  obtain ⟨l, k, xs, rfl, rfl, hT, h1, h2, hz, q0, q1, q2⟩ := h
  cases rx
  obtain ⟨t, rfl⟩ := ry
  obtain ⟨its, r, ⟨⟨cls, dd, data, sl⟩, ho, hc, n, hd⟩, hs⟩ := I.tuple hT
  simp only at hc hd
  subst hc hd
  have hle : its.length = xs.length := r.length.symm
  have c0 : (decide (k < -(2 ^ 63)) || decide (k ≥ 2 ^ 63)) = false := by
    rw [decide_eq_false (by omega), decide_eq_false (by omega)] <;> rfl
  have emp : its.toArray.isEmpty = decide (xs = []) := by
    cases its with
    | nil =>
      have : xs = [] := List.eq_nil_of_length_eq_zero hle.symm
      rw [this]
      rfl
    | cons a b =>
      have : xs ≠ [] := fun z => by
        rw [z] at hle
        simp at hle
      rw [decide_eq_false this]
      rfl
  by_cases hsame : xs = [] ∨ k = 1
  · have c1 : (its.toArray.isEmpty || k == 1) = true := by
      rw [emp]
      rcases hsame with e | e
      · simp [e]
      · simp [e]
    refine wpAny_binaryOp_repeat_ref (T := "tuple") (U := "int") (by decide) ⟨_, ho, rfl⟩ (fun s' => typeIs_int s' k t) noFill_tuple_mul PySem.F.fills_int_mul PySem.F.slot_int_rmul repeat_tuple PySem.F.slot_int_index.lookup
      (call_meets PySem.F.slot_int_rmul (typeIs_int s k t) PySem.F.entry_int_rmul (PySem.F.args_int_rmul_2 _ _) (int_rmul_tuple k t l its.toArray n dd sl)
        ⟨ho, rfl, ⟨_, ho, rfl⟩, call_meets PySem.F.slot_tuple_mul ⟨_, ho, rfl⟩ PySem.F.entry_tuple_mul (PySem.F.args_tuple_mul_2 _ _) (tuple_mul_same l its.toArray n dd sl k t c0 c1) ⟨ho, ?_⟩⟩)
    exact ⟨.ref l, H, I, rfl, q0 hsame⟩
  have hne : xs ≠ [] := fun z => hsame (.inl z)
  have hk1 : k ≠ 1 := fun z => hsame (.inr z)
  have c1 : (its.toArray.isEmpty || k == 1) = false := by
    rw [emp, decide_eq_false hne, Bool.false_or]
    exact beq_eq_false_iff_ne.mpr hk1
  by_cases hk : k ≤ 0
  · have c2 : (decide (k ≤ 0) || its.toArray.isEmpty) = true := by
      rw [decide_eq_true hk]
      rfl
    refine wpAny_binaryOp_repeat_ref (T := "tuple") (U := "int") (by decide) ⟨_, ho, rfl⟩ (fun s' => typeIs_int s' k t) noFill_tuple_mul PySem.F.fills_int_mul PySem.F.slot_int_rmul repeat_tuple PySem.F.slot_int_index.lookup
      (call_meets PySem.F.slot_int_rmul (typeIs_int s k t) PySem.F.entry_int_rmul (PySem.F.args_int_rmul_2 _ _) (int_rmul_tuple k t l its.toArray n dd sl)
        ⟨ho, rfl, ⟨_, ho, rfl⟩, call_meets PySem.F.slot_tuple_mul ⟨_, ho, rfl⟩ PySem.F.entry_tuple_mul (PySem.F.args_tuple_mul_2 _ _) (tuple_mul_none l its.toArray n dd sl k t c0 c1 c2) ⟨ho, ?_⟩⟩)
    refine ⟨.ref s.heap.objs.size, _, I.laid (t' := s.toks) (o := .tup []) (fun b ob q => Heap.get?_push_of_some _ q) (Nat.le_refl _) ?_, rfl, q1 hne hk _ (I.hok.fresh (Nat.le_refl _))⟩
    exact ⟨Nat.zero_le _, _, .nil, IsTup.new _ _⟩
  · have hk2 : 2 ≤ k := by omega
    have c2 : (decide (k ≤ 0) || its.toArray.isEmpty) = false := by
      rw [emp, decide_eq_false hne, decide_eq_false hk]
      rfl
    have hsz0 : its.toArray.size = xs.length := by rw [List.size_toArray, hle]
    have hm : ((its.toArray.size : Nat) : Int) * k ≤ sizeLine := by
      rw [hsz0]
      have e : (k.toNat : Int) = k := by omega
      rw [← e]
      exact_mod_cast hz
    have flen : (List.replicate k.toNat its).flatten.length ≤ sizeLine := by
      rw [PyProof.Rows.lm_len_rep_flat, hle, Nat.mul_comm]
      exact hz
    have c3 : ¬ ((its.toArray.size : Nat) : Int) * k > (2 ^ 63 - 1) / 8 := by
      have : ((sizeLine : Nat) : Int) ≤ (2 ^ 63 - 1) / 8 := by decide
      omega
    have c4 : Builtin.Tuple.tupleTooMany (((its.toArray.size : Nat) : Int) * k) = false := by
      unfold Builtin.Tuple.tupleTooMany
      exact decide_eq_false (by omega)
    refine wpAny_binaryOp_repeat_ref (T := "tuple") (U := "int") (by decide) ⟨_, ho, rfl⟩ (fun s' => typeIs_int s' k t) noFill_tuple_mul PySem.F.fills_int_mul PySem.F.slot_int_rmul repeat_tuple PySem.F.slot_int_index.lookup
      (call_meets PySem.F.slot_int_rmul (typeIs_int s k t) PySem.F.entry_int_rmul (PySem.F.args_int_rmul_2 _ _) (int_rmul_tuple k t l its.toArray n dd sl)
        ⟨ho, rfl, ⟨_, ho, rfl⟩, call_meets PySem.F.slot_tuple_mul ⟨_, ho, rfl⟩ PySem.F.entry_tuple_mul (PySem.F.args_tuple_mul_2 _ _) (tuple_mulW l its.toArray n dd sl k t c0 c1 c2 c3 c4 (by rw [size_rep, List.size_toArray]; exact flen)) ⟨ho, ?_⟩⟩)
    rw [size_rep]
    refine ⟨.ref s.heap.objs.size, _, I.laid (t' := s.toks) (o := .tup (List.replicate k.toNat xs).flatten) (fun b ob q => Heap.get?_push_of_some _ q) (Nat.le_refl _) ?_, rfl, q2 hne hk2 _ (I.hok.fresh (Nat.le_refl _))⟩
    exact ⟨by rw [PyProof.Rows.lm_len_rep_flat, Nat.mul_comm]; exact hz, _, r.rep k.toNat, IsTup.new _ _⟩

/-! ### the binary operators -/
theorem repOk_of {n : Nat} {k : Int} (h : repOk n k = true) : -1000000 ≤ k ∧ k ≤ 1000000 ∧ n * k.toNat ≤ sizeLine := by
  obtain ⟨h1, h2⟩ := ba h
  obtain ⟨h3, h4⟩ := ba h1
  exact ⟨of_decide_eq_true h3, of_decide_eq_true h4, fit_le h2⟩
theorem bin_ok (M : Nat → Prop) (op : Bop) : OpR X (binaryOp (opOf op)) (rD X.fw M fun st a b => binD st op a b) := by
  intro pins s σ H x y v u Q I rx ry h
  obtain ⟨ζ, ρ, st, a, b, rs, ra, rb, h⟩ := h
  have fin : ∀ {d : D} {z : V}, Out (kz X.fw ζ) M (Rep (kz X.fw ζ)) E0' ρ H (.ok d st) Q → Rep (kz X.fw ζ) ρ H d z → Q z H := fun h r => h.val rs r
  replace h : Out (kz X.fw ζ) M (Rep (kz X.fw ζ)) E0' ρ H (binD st op a b) Q := h
  unfold binD at h
  split at h
  · -- two numbers
    rename_i i j
    cases rep_int ra
    cases rep_int rb
    split at h
    · rename_i z e
      exact op_arith I rx ry e (fin h mk_int)
    · exact h.elim
  · rename_i i k
    cases rep_int ra
    cases rep_bl rb
    split at h
    · exact op_add_ib pins s σ H _ _ v u Q I rx ry ⟨i, k, rfl, rfl, by cases k <;> exact fin h mk_int⟩
    · exact h.elim
  · rename_i i j
    cases rep_str ra
    cases rep_str rb
    split at h
    · cases e : fit (i.length + j.length) with
      | false =>
        rw [e] at h
        exact h.elim
      | true =>
        rw [e] at h
        exact op_add_str pins s σ H _ _ v u Q I rx ry ⟨i, j, rfl, rfl, fit_le e, fin h mk_str⟩
    · exact h.elim
  · rename_i xs ys
    obtain ⟨p, vs, rfl, h1, h2, h3⟩ := rep_tup ra
    obtain ⟨q, us, rfl, g1, g2, g3⟩ := rep_tup rb
    split at h
    · cases e : fit (xs.length + ys.length) with
      | false =>
        rw [e] at h
        exact h.elim
      | true =>
        rw [e] at h
        have hz : vs.length + us.length ≤ sizeLine := by
          rw [h3.length, g3.length]
          exact fit_le e
        refine op_catA pins s σ H _ _ v u Q I rx ry ⟨p, q, vs, us, rfl, rfl, h1.sq, g1.sq, hz, fun e1 => ?_, fun e1 e2 => ?_, fun e1 e2 t ht => ?_⟩
        · refine fin h ?_
          have : xs = [] := List.eq_nil_of_length_eq_zero (by rw [← h3.length, e1]; rfl)
          rw [this]
          exact rb
        · refine fin h ?_
          have : ys = [] := List.eq_nil_of_length_eq_zero (by rw [← g3.length, e2]; rfl)
          rw [this, List.append_nil]
          exact ra
        · exact h _ ρ _ (Step.new ht) (rs.new ht) (Rep.tupNew rs ht (by rw [List.length_append]; exact hz) (h3.append g3))
    · exact h.elim
  · rename_i xs k
    obtain ⟨p, vs, rfl, h1, h2, h3⟩ := rep_tup ra
    cases rep_int rb
    split at h
    · cases e : repOk xs.length k with
      | false =>
        rw [e] at h
        exact h.elim
      | true =>
        rw [e] at h
        obtain ⟨e1, e2, e3⟩ := repOk_of e
        have hl : vs.length = xs.length := h3.length
        refine op_repA pins s σ H _ _ v u Q I rx ry ⟨p, k, vs, rfl, rfl, h1.sq, by omega, by omega, by rw [hl]; exact e3, fun c => ?_, fun c1 c2 t ht => ?_, fun c1 c2 t ht => ?_⟩
        · refine fin h ?_
          have : repD xs k = xs := by
            unfold repD
            rcases c with c | c
            · have : xs = [] := List.eq_nil_of_length_eq_zero (by rw [← hl, c]; rfl)
              rw [this]
              induction k.toNat with
              | zero => rfl
              | succ m ih => simp
            · rw [c]
              simp
          rw [this]
          exact ra
        · have : repD xs k = [] := by
            unfold repD
            have : k.toNat = 0 := by omega
            rw [this]
            rfl
          rw [this] at h
          exact h _ ρ _ (Step.new ht) (rs.new ht) (Rep.tupNew rs ht (Nat.zero_le _) Reps.nil)
        · exact h _ ρ _ (Step.new ht) (rs.new ht) (Rep.tupNew rs ht (by rw [len_rep, hl, Nat.mul_comm]; exact e3) (h3.rep _))
    · exact h.elim
  · split at h
    · split at h
      · rename_i xs ys hx hy
        obtain ⟨p, vs, rfl, h1, h2, h3⟩ := lst_of rs ra hx
        obtain ⟨q, us, rfl, g1, g2, g3⟩ := lst_of rs rb hy
        cases e : fit (xs.length + ys.length) with
        | false =>
          rw [e] at h
          exact h.elim
        | true =>
          rw [e] at h
          have hz : vs.length + us.length ≤ sizeLine := by
            rw [h3.length, g3.length]
            exact fit_le e
          refine op_cat pins s σ H _ _ v u Q I rx ry ⟨p, q, vs, us, rfl, rfl, h1, g1, hz, fun t ht => ?_⟩
          exact h _ ρ _ (Step.new ht) (rs.new ht) (Rep.lstNew rs ht (by rw [List.length_append]; exact hz) (h3.append g3))
      · exact h.elim
    · split at h
      · rename_i xs k hx _ _ _ _ _
        obtain ⟨p, vs, rfl, h1, h2, h3⟩ := lst_of rs ra hx
        cases rep_int rb
        cases e : repOk xs.length k with
        | false =>
          rw [e] at h
          exact h.elim
        | true =>
          rw [e] at h
          obtain ⟨e1, e2, e3⟩ := repOk_of e
          have hl : vs.length = xs.length := h3.length
          refine op_rep pins s σ H _ _ v u Q I rx ry ⟨p, k, vs, rfl, rfl, h1, by omega, by omega, by rw [hl]; exact e3, fun t ht => ?_⟩
          exact h _ ρ _ (Step.new ht) (rs.new ht) (Rep.lstNew rs ht (by rw [len_rep, hl, Nat.mul_comm]; exact e3) (h3.rep _))
      · exact h.elim
    · exact h.elim
end
end Ev

end
section
set_option Elab.async false
set_option linter.all false
set_option maxRecDepth 100000
set_option autoImplicit false
set_option maxHeartbeats 1000000
/-! EvE: comparisons. -/
namespace Ev
open PySem L2
section
variable {K : KZ} {M : Nat → Prop} {ρ ρ1 : List Addr} {H H1 : Hp} {st : Sto}
theorem mapO_cons {α β : Type} {f : α → Option β} {d : α} {r : List α} {zs : List β} (h : mapO f (d :: r) = some zs) : ∃ e es, f d = some e ∧ mapO f r = some es ∧ zs = e :: es := by
  simp only [mapO] at h
  split at h
  · rename_i e he
    split at h
    · rename_i es hes
      cases h
      exact ⟨e, es, he, hes, rfl⟩
    · cases h
  · cases h
theorem mapO_nil {α β : Type} {f : α → Option β} {zs : List β} (h : mapO f [] = some zs) : zs = [] := by
  simp only [mapO] at h
  cases h
  rfl
theorem all_cons {α : Type} {p : α → Bool} {d : α} {r : List α} (h : (d :: r).all p = true) : p d = true ∧ r.all p = true := by
  simpa using h
mutual
theorem dp_pure : ∀ (d : D) (n : Nat) (v : V), fl n d = true → Rep K ρ H d v → Dp K.K H v (pd d)
  | .no, _, _, _, h => h.elim
  | .non, _, _, _, h => by
    cases rep_non h
    simp only [pd]
    exact .non
  | .bl b, _, _, _, h => by
    cases rep_bl h
    simp only [pd]
    exact .bl b
  | .int i, _, _, _, h => by
    cases rep_int h
    simp only [pd]
    exact .int i
  | .str i, _, _, _, h => by
    cases rep_str h
    simp only [pd]
    exact .str i
  | .tup ds, n, v, f, h => by
    obtain ⟨a, vs, rfl, h1, h2, h3⟩ := rep_tup h
    cases n with
    | zero => simp [fl] at f
    | succ n =>
      simp only [fl] at f
      simp only [pd]
      exact .tup h1.sq (dp_pures ds n vs f h3)
  | .lst ds, n, v, f, h => by
    obtain ⟨a, vs, rfl, h1, h2, h3⟩ := rep_lst h
    cases n with
    | zero => simp [fl] at f
    | succ n =>
      simp only [fl] at f
      simp only [pd]
      exact .lst (.of h1.2.2) (dp_pures ds n vs f h3)
  | .set _, _, _, _, h => h.elim
  | .scr ds, n, v, f, h => by
    obtain ⟨a, vs, rfl, h1, h2, h3⟩ := rep_scr h
    cases n with
    | zero => simp [fl] at f
    | succ n =>
      simp only [fl] at f
      simp only [pd]
      exact .lst h1.sq (dp_pures ds n vs f h3)
  | .dic _ _, n, _, f, _ => by cases n <;> simp [fl] at f
  | .ref _, n, _, f, _ => by cases n <;> simp [fl] at f
  | .lam _ _, n, _, f, _ => by cases n <;> simp [fl] at f
  | .fn _, _, _, _, h => h.elim
  | .ty _, n, _, f, _ => by cases n <;> simp [fl] at f
theorem dp_pures : ∀ (ds : List D) (n : Nat) (vs : List V), ds.all (fl n) = true → Reps K ρ H ds vs → DpAll K.K H vs (pds ds)
  | [], _, _, _, h => by
    simp only [Reps] at h
    rw [h]
    simp only [pds]
    exact .nil
  | d :: r, n, vs, f, h => by
    obtain ⟨f1, f2⟩ := all_cons f
    simp only [Reps] at h
    obtain ⟨v, vr, rfl, h1, h2⟩ := h
    simp only [pds]
    exact .cons (dp_pure d n v f1 h1) (dp_pures r n vr f2 h2)
end
theorem dp_mapO {f : D → Option D} (hf : ∀ d d' n v, f d = some d' → fl n d' = true → Rep K ρ H d v → Dp K.K H v (pd d')) : ∀ (ds ds' : List D) (n : Nat) (vs : List V), mapO f ds = some ds' → ds'.all (fl n) = true → Reps K ρ H ds vs → DpAll K.K H vs (pds ds')
  | [], ds', n, vs, e, _, h => by
    rw [mapO_nil e]
    simp only [Reps] at h
    rw [h]
    simp only [pds]
    exact .nil
  | d :: r, ds', n, vs, e, g, h => by
    obtain ⟨z, zs, e1, e2, rfl⟩ := mapO_cons e
    obtain ⟨f1, f2⟩ := all_cons g
    simp only [Reps] at h
    obtain ⟨v, vr, rfl, h1, h2⟩ := h
    simp only [pds]
    exact .cons (hf _ _ _ _ e1 f1 h1) (dp_mapO hf r zs n vr e2 f2 h2)
theorem dp_rd (rs : RelSt K ρ H M st) : ∀ (k : Nat) (a a' : D) (n : Nat) (v : V), rd st k a = some a' → fl n a' = true → Rep K ρ H a v → Dp K.K H v (pd a')
  | 0, a, a', n, v, e, f, h => by
    simp only [rd] at e
    cases p : a.pure with
    | false =>
      rw [p] at e
      cases e
    | true =>
      rw [p] at e
      cases e
      exact dp_pure _ n v f h
  | k + 1, a, a', n, v, e, f, h => by
    simp only [rd] at e
    cases p : a.pure with
    | true =>
      rw [p] at e
      cases e
      exact dp_pure _ n v f h
    | false =>
      rw [p] at e
      simp only [cond_false] at e
      split at e
      · rename_i m
        split at e
        · rename_i ds hc
          obtain ⟨ds', e1, rfl⟩ := Option.map_eq_some_iff.mp e
          obtain ⟨b, rfl, hb⟩ := rep_ref h
          obtain ⟨b', hb', vs, g1, g2, g3⟩ := rs.cell m _ hc
          rw [hb] at hb'
          cases hb'
          cases n with
          | zero => simp [fl] at f
          | succ n =>
            simp only [fl] at f
            simp only [pd]
            exact .lst (.of g1) (dp_mapO (dp_rd rs k) ds ds' n vs e1 f g3)
        · cases e
      · rename_i ds
        obtain ⟨ds', e1, rfl⟩ := Option.map_eq_some_iff.mp e
        obtain ⟨b, vs, rfl, g1, g2, g3⟩ := rep_tup h
        cases n with
        | zero => simp [fl] at f
        | succ n =>
          simp only [fl] at f
          simp only [pd]
          exact .tup g1.sq (dp_mapO (dp_rd rs k) ds ds' n vs e1 f g3)
      · rename_i ds
        obtain ⟨ds', e1, rfl⟩ := Option.map_eq_some_iff.mp e
        obtain ⟨b, vs, rfl, g1, g2, g3⟩ := rep_lst h
        cases n with
        | zero => simp [fl] at f
        | succ n =>
          simp only [fl] at f
          simp only [pd]
          exact .lst (.of g1.2.2) (dp_mapO (dp_rd rs k) ds ds' n vs e1 f g3)
      · cases e
mutual
theorem plain_pd : ∀ d : D, (pd d).plain = true
  | .no => by simp [pd, PyData.plain]
  | .non => by simp [pd, PyData.plain]
  | .bl _ => by simp [pd, PyData.plain]
  | .int _ => by simp [pd, PyData.plain]
  | .str _ => by simp [pd, PyData.plain]
  | .tup ds => by
    simp only [pd, PyData.plain]
    exact plain_pds ds
  | .lst ds => by
    simp only [pd, PyData.plain]
    exact plain_pds ds
  | .set _ => by simp [pd, PyData.plain]
  | .scr ds => by
    simp only [pd, PyData.plain]
    exact plain_pds ds
  | .dic _ _ => by simp [pd, PyData.plain]
  | .ref _ => by simp [pd, PyData.plain]
  | .lam _ _ => by simp [pd, PyData.plain]
  | .fn _ => by simp [pd, PyData.plain]
  | .ty _ => by simp [pd, PyData.plain]
theorem plain_pds : ∀ ds : List D, PyData.plainAll (pds ds) = true
  | [] => by simp [pds, PyData.plainAll]
  | d :: r => by
    simp only [pds, PyData.plainAll]
    rw [plain_pd d, plain_pds r]
    rfl
end
mutual
theorem depth_pd : ∀ (d : D) (n : Nat), fl n d = true → (pd d).depth ≤ n
  | .no, _, _ => by simp [pd, PyData.depth]
  | .non, _, _ => by simp [pd, PyData.depth]
  | .bl _, _, _ => by simp [pd, PyData.depth]
  | .int _, _, _ => by simp [pd, PyData.depth]
  | .str _, _, _ => by simp [pd, PyData.depth]
  | .tup ds, n, f => by
    cases n with
    | zero => simp [fl] at f
    | succ n =>
      simp only [fl] at f
      simp only [pd, PyData.depth]
      have := depth_pds ds n f
      omega
  | .lst ds, n, f => by
    cases n with
    | zero => simp [fl] at f
    | succ n =>
      simp only [fl] at f
      simp only [pd, PyData.depth]
      have := depth_pds ds n f
      omega
  | .set _, _, _ => by simp [pd, PyData.depth]
  | .scr ds, n, f => by
    cases n with
    | zero => simp [fl] at f
    | succ n =>
      simp only [fl] at f
      simp only [pd, PyData.depth]
      have := depth_pds ds n f
      omega
  | .dic _ _, _, _ => by simp [pd, PyData.depth]
  | .ref _, _, _ => by simp [pd, PyData.depth]
  | .lam _ _, _, _ => by simp [pd, PyData.depth]
  | .fn _, _, _ => by simp [pd, PyData.depth]
  | .ty _, _, _ => by simp [pd, PyData.depth]
theorem depth_pds : ∀ (ds : List D) (n : Nat), ds.all (fl n) = true → PyData.depthAll (pds ds) ≤ n
  | [], _, _ => by simp [pds, PyData.depthAll]
  | d :: r, n, f => by
    obtain ⟨f1, f2⟩ := all_cons f
    simp only [pds, PyData.depthAll]
    have h1 := depth_pd d n f1
    have h2 := depth_pds r n f2
    omega
end
theorem pds_map : ∀ ds : List D, pds ds = ds.map pd
  | [] => rfl
  | d :: r => by
    simp only [pds, List.map_cons]
    rw [pds_map r]
end

section
variable {X : L2.Cx} {M : Nat → Prop} {ζ : Zt} {ρ : List Addr} {H : Hp} {st : Sto} {pins : List (Addr × Obj)} {s : Shared} {σ : L2.St}
theorem reads_rd (I : Inv X pins σ H s) (rs : RelSt (kz X.fw ζ) ρ H M st) {a a' : D} {k n : Nat} {v : V} {u : Value} (e : rd st k a = some a') (f : fl n a' = true) (h : Rep (kz X.fw ζ) ρ H a v) (r : RelV v u) : ∃ as, Reads s.heap u (pd a') as :=
  Dp.reads I _ v u (dp_rd rs k a a' n v e f h) r
theorem readsAll_rd (I : Inv X pins σ H s) (rs : RelSt (kz X.fw ζ) ρ H M st) {ds ds' : List D} {k n : Nat} {vs : List V} {us : List Value} (e : mapO (rd st k) ds = some ds') (f : ds'.all (fl n) = true) (h : Reps (kz X.fw ζ) ρ H ds vs) (r : Vals vs us) : ∃ as, ReadsAll s.heap us (pds ds') as :=
  Dp.readsAll I _ vs us (dp_mapO (dp_rd rs k) ds ds' n vs e f h) r
def copOf : Cop → CmpOp
  | .lt => .Lt | .le => .LtE | .gt => .Gt | .ge => .GtE | .eq => .Eq | .ne => .NotEq | .isin => .In | .notin => .NotIn
theorem cmp_int {op : Cop} {i j : Int} {k : Bool} {Q : VK} {v u : Value} (I : Inv X pins σ H s) (rx : RelV (.int i) v) (ry : RelV (.int j) u) (e : icmp op i j = some k) (q : Q (.bl k) H) :
    wpAny (model X.prog X.w) X.A (compareOp (copOf op) v u) (EP X pins σ Q) X.xe s := by
  cases op with
  | lt =>
    cases e
    exact op_lt pins s σ H _ _ v u Q I rx ry ⟨i, j, rfl, rfl, q⟩
  | le =>
    cases e
    exact op_le pins s σ H _ _ v u Q I rx ry ⟨i, j, rfl, rfl, q⟩
  | gt =>
    cases e
    exact op_gt pins s σ H _ _ v u Q I rx ry ⟨i, j, rfl, rfl, q⟩
  | ge =>
    cases e
    exact op_ge pins s σ H _ _ v u Q I rx ry ⟨i, j, rfl, rfl, q⟩
  | eq =>
    cases e
    exact op_eq pins s σ H _ _ v u Q I rx ry ⟨rfl, by
      have : decide (V.int i = V.int j) = decide (i = j) := by simp
      rw [this]
      exact q⟩
  | ne =>
    cases e
    exact op_ne pins s σ H _ _ v u Q I rx ry ⟨rfl, by
      have : decide (V.int i = V.int j) = decide (i = j) := by simp
      rw [this]
      exact q⟩
  | isin => cases e
  | notin => cases e
theorem cmp_data (hu : X.A.units + 64 < cLine) {op : Cop} {a b : D} {k : Bool} {Q : VK} {v u : Value} {as bs : List Addr} (I : Inv X pins σ H s) (ra : Reads s.heap v (pd a) as) (rb : Reads s.heap u (pd b) bs) (fa : fl deep a = true) (fb : fl deep b = true)
    (e : dcmp op a b = some k) (q : Q (.bl k) H) : wpAny (model X.prog X.w) X.A (compareOp (copOf op) v u) (EP X pins σ Q) X.xe s := by
  have hd : X.A.units + min (pd a).depth (pd b).depth < cLine := by
    have := depth_pd a _ fa
    have e : deep = 12 := rfl
    have : min (pd a).depth (pd b).depth ≤ 12 := Nat.le_trans (Nat.min_le_left _ _) (by omega)
    omega
  have fin : ∀ {k : Bool}, Q (.bl k) H → EP X pins σ Q (.bool k) s := fun q => ⟨.bl _, H, I, rfl, q⟩
  have nn : ∀ {z : PyData}, (!isNoneD z) = true → z ≠ .none := fun {z} h e => by
    rw [e] at h
    cases h
  cases op with
  | eq =>
    cases e
    exact SeqAt.eq_plain ra rb (plain_pd a) (plain_pd b) hd (fin q)
  | ne =>
    cases e
    exact SeqAt.ne_plain ra rb (plain_pd a) (plain_pd b) hd (fin q)
  | lt =>
    simp only [dcmp] at e
    cases c : PySem.W.alike (pd a) (pd b) && !isNoneD (pd a) with
    | false =>
      rw [c] at e
      cases e
    | true =>
      rw [c] at e
      cases e
      exact PySem.W.lt_data ra rb (ba c).1 (nn (ba c).2) hd (fin q)
  | gt =>
    simp only [dcmp] at e
    cases c : PySem.W.alike (pd a) (pd b) && !isNoneD (pd a) with
    | false =>
      rw [c] at e
      cases e
    | true =>
      rw [c] at e
      cases e
      exact PySem.W.gt_data ra rb (ba c).1 (nn (ba c).2) hd (fin q)
  | le =>
    simp only [dcmp] at e
    cases c : PySem.W.alike (pd a) (pd b) && !isNoneD (pd a) with
    | false =>
      rw [c] at e
      cases e
    | true =>
      rw [c] at e
      cases e
      exact PySem.W.le_data ra rb (ba c).1 (nn (ba c).2) hd (fin q)
  | ge =>
    simp only [dcmp] at e
    cases c : PySem.W.alike (pd a) (pd b) && !isNoneD (pd a) with
    | false =>
      rw [c] at e
      cases e
    | true =>
      rw [c] at e
      cases e
      exact PySem.W.ge_data ra rb (ba c).1 (nn (ba c).2) hd (fin q)
  | isin => cases e
  | notin => cases e

theorem in_seq (hu : X.A.units + 66 < cLine) (neg : Bool) {a b : D} {x y : V} {k : Bool} {Q : VK} {v u : Value} (I : Inv X pins σ H s) (rs : RelSt (kz X.fw ζ) ρ H M st) (ra : Rep (kz X.fw ζ) ρ H a x) (rb : Rep (kz X.fw ζ) ρ H b y) (rx : RelV x v) (ry : RelV y u)
    (e : inSeq st a b = some k) (q : Q (.bl (if neg then !k else k)) H) : wpAny (model X.prog X.w) X.A (compareOp (if neg then .NotIn else .In) v u) (EP X pins σ Q) X.xe s := by
  unfold inSeq at e
  split at e
  · rename_i a' b' ea eb
    cases c : fl deep a' && fl deep b' with
    | false =>
      rw [c] at e
      cases e
    | true =>
      rw [c] at e
      obtain ⟨fa, fb⟩ := ba c
      obtain ⟨as, r1⟩ := reads_rd I rs ea fa ra rx
      obtain ⟨bs, r2⟩ := reads_rd I rs eb fb rb ry
      have fin : ∀ {ds : List D}, some (has ds a') = some k → EP X pins σ Q (.bool (if neg then !((pds ds).any fun y => PyData.eqv y (pd a')) else ((pds ds).any fun y => PyData.eqv y (pd a')))) s := fun {ds} e => by
        have : ((pds ds).any fun y => PyData.eqv y (pd a')) = k := by
          rw [pds_map, List.any_map]
          exact Option.some.inj e
        rw [this]
        exact ⟨.bl _, H, I, rfl, q⟩
      have dpt : ∀ {ds : List D}, ds.all (fl 11) = true → X.A.units + 1 + min (PyData.depthAll (pds ds)) (pd a').depth < cLine := fun {ds} f => by
        have := depth_pds ds _ f
        have : min (PyData.depthAll (pds ds)) (pd a').depth ≤ 11 := Nat.le_trans (Nat.min_le_left _ _) this
        omega
      split at e
      · rename_i ds
        simp only [pd] at r2
        have f : ds.all (fl 11) = true := fb
        cases neg with
        | true => exact SeqAt.notIn_tuple_data r2 r1 (plain_pds ds) (plain_pd a') (dpt f) (fin e)
        | false => exact SeqAt.in_tuple_data r2 r1 (plain_pds ds) (plain_pd a') (dpt f) (fin e)
      · rename_i ds
        simp only [pd] at r2
        have f : ds.all (fl 11) = true := fb
        cases neg with
        | true => exact SeqAt.notIn_list_data r2 r1 (plain_pds ds) (plain_pd a') (dpt f) (fin e)
        | false => exact SeqAt.in_list_data r2 r1 (plain_pds ds) (plain_pd a') (dpt f) (fin e)
      · rename_i ds
        simp only [pd] at r2
        have f : ds.all (fl 11) = true := fb
        cases neg with
        | true => exact SeqAt.notIn_list_data r2 r1 (plain_pds ds) (plain_pd a') (dpt f) (fin e)
        | false => exact SeqAt.in_list_data r2 r1 (plain_pds ds) (plain_pd a') (dpt f) (fin e)
      · cases e
  · cases e
/-! ### dicts whose keys are tuples -/
mutual
theorem nested_of (I : Inv X pins σ H s) : ∀ (d : D) (n : Nat) (v : V) (u : Value), keyB n d = true → Rep (kz X.fw ζ) ρ H d v → RelV v u → NestedIs s.heap (nkOf d) u
  | .no, _, _, _, _, r, _ => r.elim
  | .non, _, _, _, _, r, q => by
    cases rep_non r
    cases q
    simp only [nkOf]
    exact .none
  | .bl b, _, _, _, _, r, q => by
    cases rep_bl r
    cases q
    simp only [nkOf]
    exact .bool rfl
  | .int i, _, _, _, _, r, q => by
    cases rep_int r
    obtain ⟨t, rfl⟩ := q
    simp only [nkOf]
    exact .int i t
  | .str x, _, _, _, _, r, q => by
    cases rep_str r
    obtain ⟨t, rfl⟩ := q
    simp only [nkOf]
    exact .text x t
  | .tup ds, n, v, u, k, r, q => by
    obtain ⟨a, vs, rfl, h1, h2, h3⟩ := rep_tup r
    cases q
    obtain ⟨its, rv, ⟨o, ho, hc, m, hd⟩, _⟩ := I.tuple h1.sq
    cases n with
    | zero => simp [keyB] at k
    | succ n =>
      simp only [keyB] at k
      simp only [nkOf]
      exact .tup ho hc hd (nested_all I ds n vs its k h3 rv)
  | .lst _, n, _, _, k, _, _ => by cases n <;> simp [keyB] at k
  | .set _, n, _, _, k, _, _ => by cases n <;> simp [keyB] at k
  | .scr _, n, _, _, k, _, _ => by cases n <;> simp [keyB] at k
  | .dic _ _, n, _, _, k, _, _ => by cases n <;> simp [keyB] at k
  | .ref _, n, _, _, k, _, _ => by cases n <;> simp [keyB] at k
  | .lam _ _, n, _, _, k, _, _ => by cases n <;> simp [keyB] at k
  | .fn _, n, _, _, k, _, _ => by cases n <;> simp [keyB] at k
  | .ty _, n, _, _, k, _, _ => by cases n <;> simp [keyB] at k
theorem nested_all (I : Inv X pins σ H s) : ∀ (ds : List D) (n : Nat) (vs : List V) (us : List Value), ds.all (keyB n) = true → Reps (kz X.fw ζ) ρ H ds vs → Vals vs us → NestedAll s.heap (nkOfs ds) us
  | [], _, vs, us, _, r, q => by
    simp only [Reps] at r
    subst r
    cases q
    simp only [nkOfs]
    exact .nil
  | d :: ds, n, vs, us, k, r, q => by
    obtain ⟨k1, k2⟩ := all_cons k
    simp only [Reps] at r
    obtain ⟨v, w, rfl, r1, r2⟩ := r
    cases q with
    | cons q1 q2 =>
      simp only [nkOfs]
      exact .cons (nested_of I d n v _ k1 r1 q1) (nested_all I ds n w _ k2 r2 q2)
end
mutual
theorem nk_depth : ∀ (d : D) (n : Nat), keyB n d = true → (nkOf d).depth ≤ n
  | .no, n, k => by cases n <;> simp [keyB] at k
  | .non, _, _ => by simp [nkOf, NestedKey.depth]
  | .bl _, _, _ => by simp [nkOf, NestedKey.depth]
  | .int _, _, _ => by simp [nkOf, NestedKey.depth]
  | .str _, _, _ => by simp [nkOf, NestedKey.depth]
  | .tup ds, n, k => by
    cases n with
    | zero => simp [keyB] at k
    | succ n =>
      simp only [keyB] at k
      simp only [nkOf, NestedKey.depth]
      exact Nat.succ_le_succ (nks_depth ds n k)
  | .lst _, n, k => by cases n <;> simp [keyB] at k
  | .set _, n, k => by cases n <;> simp [keyB] at k
  | .scr _, n, k => by cases n <;> simp [keyB] at k
  | .dic _ _, n, k => by cases n <;> simp [keyB] at k
  | .ref _, n, k => by cases n <;> simp [keyB] at k
  | .lam _ _, n, k => by cases n <;> simp [keyB] at k
  | .fn _, n, k => by cases n <;> simp [keyB] at k
  | .ty _, n, k => by cases n <;> simp [keyB] at k
theorem nks_depth : ∀ (ds : List D) (n : Nat), ds.all (keyB n) = true → NestedKey.depthAll (nkOfs ds) ≤ n
  | [], _, _ => by simp [nkOfs, NestedKey.depthAll]
  | d :: ds, n, k => by
    obtain ⟨k1, k2⟩ := all_cons k
    simp only [nkOfs, NestedKey.depthAll]
    exact Nat.max_le.mpr ⟨nk_depth d n k1, nks_depth ds n k2⟩
end
/-- a key of a dict -/
theorem tkey_is (I : Inv X pins σ H s) {d : D} {v : V} {u : Value} (k : tkey d = true) (r : Rep (kz X.fw ζ) ρ H d v) (q : RelV v u) : ∃ a, u = .ref a ∧ (nestedKind X.prog X.w).is s.heap (nkOf d) a := by
  cases d with
  | tup ds =>
    obtain ⟨a, vs, rfl, _⟩ := rep_tup r
    have k' : keyB 8 (.tup ds) = true := k
    cases q
    exact ⟨a, rfl, nested_of I _ 8 _ _ k' r rfl, nk_depth _ 8 k'⟩
  | _ => cases k
theorem rep_dic {K : KZ} {ks vs : List D} {v : V} (h : Rep K ρ H (.dic ks vs) v) : ∃ a xs us, v = .ref a ∧ (a ∉ ρ ∧ a ∉ K.z.l) ∧ H a = some (DicO K.F.P K.F.w a xs) ∧ ((a == sysModules) = false ∧ xs.length ≤ sizeLine) ∧ (xs.map (·.1) = nkOfs ks ∧ ks.all tkey = true) ∧ Reps K ρ H ks (xs.map fun x => V.ref x.2.1) ∧ Vals us (xs.map (·.2.2)) ∧ Reps K ρ H vs us := by simpa only [Rep] using h
theorem keys_is (I : Inv X pins σ H s) : ∀ {ks : List D} {xs : List (NestedKey × Addr × Value)}, xs.map (·.1) = nkOfs ks → ks.all tkey = true → Reps (kz X.fw ζ) ρ H ks (xs.map fun x => V.ref x.2.1) → ∀ x ∈ xs, (nestedKind X.prog X.w).is s.heap x.1 x.2.1
  | _, [], _, _, _ => by simp
  | [], x :: xs, e, _, _ => by simp [nkOfs] at e
  | d :: ks, x :: xs, e, k, r => by
    obtain ⟨k1, k2⟩ := all_cons k
    simp only [List.map_cons, nkOfs, List.cons.injEq] at e
    simp only [List.map_cons, Reps] at r
    obtain ⟨v, w, e2, r1, r2⟩ := r
    cases e2
    intro y hy
    rcases List.mem_cons.mp hy with rfl | hy
    · obtain ⟨a, e3, q⟩ := tkey_is I k1 r1 (u := .ref y.2.1) rfl
      cases e3
      rw [e.1]
      exact q
    · exact keys_is I e.2 k2 r2 y hy
theorem dic_keyed (I : Inv X pins σ H s) {ks vs : List D} {a : Addr} {xs : List (NestedKey × Addr × Value)} (h2 : H a = some (DicO X.prog X.w a xs)) (h4 : xs.map (·.1) = nkOfs ks ∧ ks.all tkey = true) (h5 : Reps (kz X.fw ζ) ρ H ks (xs.map fun x => V.ref x.2.1)) : s.heap.DictKeyed (nestedKind X.prog X.w) a (pairsH xs) := by
  obtain ⟨⟨o, es, ep, e1, e2, e3, e4, e5⟩, _, _⟩ := I.hok a _ h2
  exact ⟨xs, ⟨o, es, ep, e1, e2, e3, e4, keys_is I h4.1 h4.2 h5, e5⟩, rfl⟩
theorem at_any {kk : NestedKey} : ∀ {ks : List D} {xs : List (NestedKey × Addr × Value)}, xs.map (·.1) = nkOfs ks → (valueAt (pairsH xs) kk).isSome = ks.any fun z => decide (nkOf z = kk)
  | [], [], _ => rfl
  | [], x :: xs, e => by simp [nkOfs] at e
  | d :: ks, [], e => by simp [nkOfs] at e
  | d :: ks, x :: xs, e => by
    simp only [List.map_cons, nkOfs, List.cons.injEq] at e
    have ih := at_any (kk := kk) e.2
    unfold valueAt pairsH at ih ⊢
    simp only [List.map_cons, List.find?_cons, List.any_cons]
    rw [← e.1]
    by_cases c : x.1 = kk
    · simp [c]
    · simp only [c, decide_false, Bool.false_or]
      exact ih
theorem at_some {K : KZ} {kk : NestedKey} : ∀ {ks vs : List D} {xs : List (NestedKey × Addr × Value)} {us : List V} {d : D}, xs.map (·.1) = nkOfs ks → Vals us (xs.map (·.2.2)) → Reps K ρ H vs us → ((ks.zip vs).find? fun p => decide (nkOf p.1 = kk)).map (·.2) = some d → ∃ v u, valueAt (pairsH xs) kk = some u ∧ RelV v u ∧ Rep K ρ H d v
  | [], _, _, _, _, _, _, _, q => by simp at q
  | _ :: _, [], _, _, _, _, _, _, q => by simp at q
  | d0 :: ks, w :: vs, [], us, d, e, _, _, _ => by simp [nkOfs] at e
  | d0 :: ks, w :: vs, x :: xs, us, d, e, hv, r, q => by
    simp only [List.map_cons, nkOfs, List.cons.injEq] at e
    simp only [Reps] at r
    obtain ⟨v, us', rfl, r1, r2⟩ := r
    simp only [List.map_cons] at hv
    cases hv with
    | cons hv1 hv2 =>
      have ih := at_some (K := K) (kk := kk) (d := d) e.2 hv2 r2
      unfold valueAt pairsH at ih ⊢
      simp only [List.zip_cons_cons, List.find?_cons, List.map_cons] at q ⊢
      rw [← e.1] at q
      by_cases c : x.1 = kk
      · simp only [c, decide_true, Option.map_some, Option.some.injEq] at q ⊢
        subst q
        exact ⟨v, x.2.2, rfl, hv1, r1⟩
      · simp only [c, decide_false] at q ⊢
        exact ih q
theorem in_ok (hu : X.A.units + 66 < cLine) (neg : Bool) {a b : D} {x y : V} {k : Bool} {Q : VK} {v u : Value} (I : Inv X pins σ H s) (rs : RelSt (kz X.fw ζ) ρ H M st) (ra : Rep (kz X.fw ζ) ρ H a x) (rb : Rep (kz X.fw ζ) ρ H b y) (rx : RelV x v) (ry : RelV y u)
    (e : inD st a b = some k) (q : Q (.bl (if neg then !k else k)) H) : wpAny (model X.prog X.w) X.A (compareOp (if neg then .NotIn else .In) v u) (EP X pins σ Q) X.xe s := by
  unfold inD at e
  split at e
  · rename_i z
    split at e
    · rename_i z'
      cases rep_str ra
      cases rep_str rb
      cases e
      cases neg with
      | true => exact op_notin_str pins s σ H _ _ v u Q I rx ry ⟨_, _, rfl, rfl, by simpa using q⟩
      | false => exact op_in_str pins s σ H _ _ v u Q I rx ry ⟨_, _, rfl, rfl, by simpa using q⟩
    · cases e
  · rename_i ks vs
    cases c : tkey a with
    | false =>
      rw [c] at e
      cases e
    | true =>
      rw [c] at e
      cases e
      obtain ⟨p, xs, us, rfl, h1, h2, h3, h4, h5, h6, h7⟩ := rep_dic rb
      obtain ⟨t, rfl, ht⟩ := tkey_is I c ra rx
      cases ry
      have hm := dic_keyed (vs := vs) I h2 h4 h5
      have hroom : (nestedKind X.prog X.w).room X.A.in1 := by
        show X.A.units + 1 + 8 < cLine
        omega
      have ea := at_any (kk := nkOf a) h4.1
      cases neg with
      | true => exact notIn_keyed hroom ht h3.1 hm ⟨.bl (!(ks.any fun z => decide (nkOf z = nkOf a))), H, I.tok _, by rw [ea]; rfl, by simpa using q⟩
      | false => exact in_keyed hroom ht h3.1 hm ⟨.bl (ks.any fun z => decide (nkOf z = nkOf a)), H, I.tok _, by rw [ea]; rfl, by simpa using q⟩
  · exact rb.elim
  · rename_i n
    split at e
    · exact in_seq hu neg I rs ra rb rx ry e q
    · rename_i kvs hc
      obtain ⟨a, _, h⟩ := rs.cell n _ hc
      exact h.elim
    · rename_i ds hc
      obtain ⟨a, _, h⟩ := rs.cell n _ hc
      exact h.elim
    · cases e
  · exact in_seq hu neg I rs ra rb rx ry e q
theorem cmp_ok (hu : X.A.units + 66 < cLine) (M : Nat → Prop) (op : Cop) : OpR X (compareOp (copOf op)) (rD X.fw M fun st a b => cmpD st op a b) := by
  intro pins s σ H x y v u Q I rx ry h
  obtain ⟨ζ, ρ, st, a, b, rs, ra, rb, h⟩ := h
  replace h : Out (kz X.fw ζ) M (Rep (kz X.fw ζ)) E0' ρ H (cmpD st op a b) Q := h
  have fin : ∀ {k : Bool}, Out (kz X.fw ζ) M (Rep (kz X.fw ζ)) E0' ρ H (.ok (.bl k) st) Q → Q (.bl k) H := fun h => h.val rs mk_bl
  unfold cmpD at h
  split at h
  · split at h
    · rename_i k e
      exact in_ok (neg := false) hu I rs ra rb rx ry e (fin h)
    · exact h.elim
  · split at h
    · rename_i k e
      exact in_ok (neg := true) hu I rs ra rb rx ry e (fin h)
    · exact h.elim
  · split at h
    · rename_i i j
      cases rep_int ra
      cases rep_int rb
      split at h
      · rename_i k e
        exact cmp_int I rx ry e (fin h)
      · exact h.elim
    · split at h
      · rename_i a' b' ea eb
        cases c : fl deep a' && fl deep b' with
        | false =>
          rw [c] at h
          exact h.elim
        | true =>
          rw [c] at h
          obtain ⟨fa, fb⟩ := ba c
          obtain ⟨as, r1⟩ := reads_rd I rs ea fa ra rx
          obtain ⟨bs, r2⟩ := reads_rd I rs eb fb rb ry
          simp only [cond_true] at h
          split at h
          · rename_i k e
            exact cmp_data (by omega) I r1 r2 fa fb e (fin h)
          · exact h.elim
      · exact h.elim
end
end Ev

end
section
set_option Elab.async false
set_option linter.all false
set_option maxRecDepth 100000
set_option autoImplicit false
set_option maxHeartbeats 1000000
/-! EvF: subscripts, slices, truth, built-in functions. -/
namespace Ev
open PySem L2
section
variable {X : L2.Cx} {M : Nat → Prop}
theorem atI_rep {K : KZ} {ρ : List Addr} {H : Hp} {ds : List D} {vs : List V} {i : Int} {d : D} (h : Reps K ρ H ds vs) (e : atI ds i = some d) : ∃ v, atI vs i = some v ∧ Rep K ρ H d v := by
  unfold atI at e ⊢
  rw [h.length]
  cases c : ixN ds.length i with
  | none =>
    rw [c] at e
    cases e
  | some j =>
    rw [c] at e
    exact h.get e
/-- a[i] -/
theorem ix_ok (hu : X.A.units + 66 < cLine) (M : Nat → Prop) : IxR X (rD X.fw M fun st a b => ixD st a b) := by
  intro value slice pins s σ H x y v u Q I rx ry h hs
  obtain ⟨ζ, ρ, st, a, b, rs, ra, rb, h⟩ := h
  replace h : Out (kz X.fw ζ) M (Rep (kz X.fw ζ)) E0' ρ H (ixD st a b) Q := h
  have fin : ∀ {d : D} {z : V}, Out (kz X.fw ζ) M (Rep (kz X.fw ζ)) E0' ρ H (.ok d st) Q → Rep (kz X.fw ζ) ρ H d z → Q z H := fun h r => h.val rs r
  unfold ixD at h
  split at h
  · rename_i z
    cases rep_str ra
    split at h
    · rename_i k
      cases rep_int rb
      cases e : fit z.length with
      | false =>
        rw [e] at h
        exact h.elim
      | true =>
        rw [e] at h
        simp only [cond_true] at h
        split at h
        · rename_i c ec
          exact ix_str value slice pins s σ H _ _ v u Q I rx ry ⟨z, k, c, rfl, rfl, fit_le e, ec, fin h mk_str⟩ hs
        · exact h.elim
    · exact h.elim
  · split at h
    · rename_i ds hds
      obtain ⟨p, vs, rfl, h1, h2, h3⟩ := seq_of rs ra hds
      split at h
      · rename_i k
        cases rep_int rb
        split at h
        · rename_i d hd
          obtain ⟨w', e1, e2⟩ := atI_rep h3 hd
          rcases h1 with h1 | h1
          · exact ix_list value slice pins s σ H _ _ v u Q I rx ry ⟨p, vs, k, w', rfl, rfl, h1, e1, fin h e2⟩ hs
          · exact ix_tup value slice pins s σ H _ _ v u Q I rx ry ⟨p, vs, k, w', rfl, rfl, h1, e1, fin h e2⟩ hs
        · exact h.elim
      · exact h.elim
    · split at h
      · rename_i ks vs _ _
        cases c : tkey b with
        | false =>
          rw [c] at h
          exact h.elim
        | true =>
          rw [c] at h
          simp only [cond_true] at h
          split at h
          · rename_i d hd
            obtain ⟨p, xs, us, rfl, h1, h2, h3, h4, h5, h6, h7⟩ := rep_dic ra
            obtain ⟨t, rfl, ht⟩ := tkey_is I c rb ry
            cases rx
            obtain ⟨v', u', e1, e2, e3⟩ := at_some h4.1 h6 h7 hd
            have hroom : (nestedKind X.prog X.w).room X.A.in1 := by
              show X.A.units + 1 + 8 < cLine
              omega
            have hm := dic_keyed (vs := vs) I h2 h4 h5
            exact PyProof.Rows.tail_any hm.typeIs PySem.F.slot_dict_getitem.lookup (getItem_keyed hroom ht hm e1 ⟨v', H, I.tok _, e2, fin h e3⟩) hs
          · exact h.elim
      · exact h.elim
theorem cut_rep {K : KZ} {ρ : List Addr} {H : Hp} {ds : List D} {vs : List V} (h : Reps K ρ H ds vs) (lo hi : Option Int) : Reps K ρ H (cutD ds lo hi) (cutV vs lo hi) := by
  unfold cutD cutV
  rw [h.length]
  exact (h.drop _).take _
theorem cut_whole {α : Type} {xs : List α} {lo hi : Option Int} (h : HT.sIx xs.length 0 lo = 0 ∧ HT.sIx xs.length xs.length hi = xs.length) : cutD xs lo hi = xs := by
  unfold cutD
  rw [h.1, h.2]
  simp
/-- a[lo:hi] -/
def rSlD (K : Fw) (M : Nat → Prop) : V → Option Int → Option Int → Hp → VK → Prop := fun x lo hi H Q => ∃ ζ ρ st a, RelSt (kz K ζ) ρ H M st ∧ Rep (kz K ζ) ρ H a x ∧ Out (kz K ζ) M (Rep (kz K ζ)) E0' ρ H (slD st a lo hi) Q
theorem sl_ok (M : Nat → Prop) : SlR X (rSlD X.fw M) := by
  intro pins s σ H x v vl vu lo hi sl Q I rx hs pl pu h
  obtain ⟨ζ, ρ, st, a, rs, ra, h⟩ := h
  have fin : ∀ {d : D} {z : V}, Out (kz X.fw ζ) M (Rep (kz X.fw ζ)) E0' ρ H (.ok d st) Q → Rep (kz X.fw ζ) ρ H d z → Q z H := fun h r => h.val rs r
  unfold slD at h
  split at h
  · rename_i z
    cases rep_str ra
    cases e : fit z.length with
    | false =>
      rw [e] at h
      exact h.elim
    | true =>
      rw [e] at h
      exact sl_str pins s σ H _ v vl vu lo hi sl Q I rx hs pl pu ⟨z, rfl, fit_le e, fin h mk_str⟩
  · rename_i ds
    obtain ⟨p, vs, rfl, h1, h2, h3⟩ := rep_tup ra
    refine sl_tupA pins s σ H _ v vl vu lo hi sl Q I rx hs pl pu ⟨p, vs, rfl, h1.sq, fun hw => fin h ?_, fun hw q hq => ?_⟩
    · rw [h3.length] at hw
      rw [cut_whole hw]
      exact ra
    · exact h _ ρ _ (Step.new hq) (rs.new hq) (Rep.tupNew rs hq (Nat.le_trans (cutV_length vs lo hi) h2) (cut_rep h3 lo hi))
  · split at h
    · rename_i ds hds
      obtain ⟨p, vs, rfl, h1, h2, h3⟩ := lst_of rs ra hds
      refine sl_list pins s σ H _ v vl vu lo hi sl Q I rx hs pl pu ⟨p, vs, rfl, .of h1, fun q hq => ?_⟩
      exact h _ ρ _ (Step.new hq) (rs.new hq) (Rep.lstNew rs hq (Nat.le_trans (cutV_length vs lo hi) h2) (cut_rep h3 lo hi))
    · exact h.elim
theorem emp_rep {K : KZ} {ρ : List Addr} {H : Hp} {ds : List D} {vs : List V} (h : Reps K ρ H ds vs) : vs.isEmpty = ds.isEmpty := by
  have := h.length
  cases ds <;> cases vs <;> simp at this ⊢
theorem truth_rep {K : KZ} {ρ : List Addr} {H : Hp} {st : Sto} {d : D} {v : V} {k : Bool} (rs : RelSt K ρ H M st) (r : Rep K ρ H d v) (e : truth st d = some k) : TruV K.K v H k := by
  unfold truth at e
  split at e
  · cases e
    cases rep_bl r
    rfl
  · cases e
    cases rep_int r
    rfl
  · cases e
    cases rep_non r
    rfl
  · rename_i x
    cases rep_str r
    cases c : fit x.length with
    | false =>
      rw [c] at e
      cases e
    | true =>
      rw [c] at e
      cases e
      refine ⟨fit_le c, ?_⟩
      cases x.length <;> rfl
  · rename_i ds
    cases e
    obtain ⟨p, vs, rfl, h1, h2, h3⟩ := rep_tup r
    exact .inr (.inl ⟨vs, h1.sq, by rw [emp_rep h3]⟩)
  · rename_i ds
    cases e
    obtain ⟨p, vs, rfl, h1, h2, h3⟩ := rep_lst r
    exact .inl ⟨vs, .of h1.2.2, by rw [emp_rep h3]⟩
  · rename_i ds
    cases e
    obtain ⟨p, vs, rfl, h1, h2, h3⟩ := rep_scr r
    exact .inl ⟨vs, h1.sq, by rw [emp_rep h3]⟩
  · rename_i n
    split at e
    · rename_i ds hc
      cases e
      obtain ⟨p, vs, rfl, h1, h2, h3⟩ := lst_of (d := .ref n) (ds := ds) rs r (by simp only [litems]; rw [hc])
      exact .inl ⟨vs, .of h1, by rw [emp_rep h3]⟩
    · rename_i kvs hc
      obtain ⟨_, _, q⟩ := rs.cell _ _ hc
      exact q.elim
    · cases e
  · cases e
end
/-! ### built-in functions -/
def rDs (K : Fw) (M : Nat → Prop) (f : Sto → List D → Rz D) : List V → Hp → VK → Prop := fun xs H Q => ∃ ζ ρ st ds, RelSt (kz K ζ) ρ H M st ∧ Reps (kz K ζ) ρ H ds xs ∧ Out (kz K ζ) M (Rep (kz K ζ)) E0' ρ H (f st ds) Q
def biVal : Bi → Value
  | .len => .builtin "len" | .list => .type "list" | .tuple => .type "tuple" | .int => .type "int" | .bool => .type "bool" | .str => .type "str"
  | .max => .builtin "max" | .min => .builtin "min" | .sum => .builtin "sum" | .any => .builtin "any" | .all => .builtin "all" | .sorted => .builtin "sorted"
  | .isinstance => .builtin "isinstance" | .abs => .builtin "abs" | .set => .type "set" | .dict => .type "dict" | .ord => .builtin "ord" | .chr => .builtin "chr"
section
variable {X : L2.Cx} {M : Nat → Prop} {K : KZ} {ρ : List Addr} {H : Hp} {st : Sto} {pins : List (Addr × Obj)} {s : Shared} {σ : L2.St}
theorem reps1 {d : D} {xs : List V} (h : Reps K ρ H [d] xs) : ∃ x, xs = [x] ∧ Rep K ρ H d x := by
  simp only [Reps] at h
  obtain ⟨v, r, rfl, h1, rfl⟩ := h
  exact ⟨v, rfl, h1⟩
theorem reps2 {d e : D} {xs : List V} (h : Reps K ρ H [d, e] xs) : ∃ x y, xs = [x, y] ∧ Rep K ρ H d x ∧ Rep K ρ H e y := by
  simp only [Reps] at h
  obtain ⟨v, r, rfl, h1, v2, r2, rfl, h2, rfl⟩ := h
  exact ⟨v, v2, rfl, h1, h2⟩
theorem rep_ints : ∀ {ds : List D} {ns : List Int} {vs : List V}, intsD ds = some ns → Reps K ρ H ds vs → vs = ns.map V.int
  | [], ns, vs, e, h => by
    cases e
    simp only [Reps] at h
    rw [h]
    rfl
  | d :: r, ns, vs, e, h => by
    unfold intsD at e
    split at e
    · rename_i heq
      cases heq
    · rename_i i r' heq
      cases heq
      obtain ⟨ms, e1, rfl⟩ := Option.map_eq_some_iff.mp e
      simp only [Reps] at h
      obtain ⟨v, vr, rfl, h1, h2⟩ := h
      rw [rep_int h1, rep_ints e1 h2]
      rfl
    · cases e
theorem rep_bools : ∀ {ds : List D} {ns : List Bool} {vs : List V}, boolsD ds = some ns → Reps K ρ H ds vs → vs = ns.map V.bl
  | [], ns, vs, e, h => by
    cases e
    simp only [Reps] at h
    rw [h]
    rfl
  | d :: r, ns, vs, e, h => by
    unfold boolsD at e
    split at e
    · rename_i heq
      cases heq
    · rename_i i r' heq
      cases heq
      obtain ⟨ms, e1, rfl⟩ := Option.map_eq_some_iff.mp e
      simp only [Reps] at h
      obtain ⟨v, vr, rfl, h1, h2⟩ := h
      rw [rep_bl h1, rep_bools e1 h2]
      rfl
    · cases e
theorem sitL_of {d : D} {v : V} {ds : List D} (rs : RelSt K ρ H M st) (r : Rep K ρ H d v) (e : sitL st d = some ds) : ∃ a vs, v = .ref a ∧ SqL K.K H a vs ∧ vs.length ≤ sizeLine ∧ Reps K ρ H ds vs := by
  cases d with
  | tup es => cases e
  | lst es =>
    cases e
    obtain ⟨a, vs, h1, h2, h3, h4⟩ := rep_lst r
    exact ⟨a, vs, h1, .of h2.2.2, h3, h4⟩
  | scr es =>
    cases e
    obtain ⟨a, vs, h1, h2, h3, h4⟩ := rep_scr r
    exact ⟨a, vs, h1, h2.sq, h3, h4⟩
  | ref n =>
    obtain ⟨a, vs, h1, h2, h3, h4⟩ := lst_of (d := .ref n) rs r e
    exact ⟨a, vs, h1, .of h2, h3, h4⟩
  | _ => cases e
theorem len_rep' {d : D} {v : V} {n : Nat} (rs : RelSt K ρ H M st) (r : Rep K ρ H d v) (e : lenD st d = some n) : LenV K.K v H n := by
  unfold lenD at e
  split at e
  · rename_i z
    cases rep_str r
    cases c : fit z.length with
    | false =>
      rw [c] at e
      cases e
    | true =>
      rw [c] at e
      cases e
      exact ⟨fit_le c, rfl⟩
  · split at e
    · rename_i ds hds
      cases e
      obtain ⟨p, vs, rfl, h1, h2, h3⟩ := seq_of rs r hds
      rcases h1 with h1 | h1
      · exact .inl ⟨vs, h1, h3.length.symm⟩
      · exact .inr ⟨vs, h1, h3.length.symm⟩
    · split at e
      · rename_i ds hk
        unfold sitems at hk
        split at hk
        · exact r.elim
        · split at hk
          · rename_i hc
            obtain ⟨_, _, q⟩ := rs.cell _ _ hc
            exact q.elim
          · cases hk
        · cases hk
      · cases e
theorem max_fold (n : Int) : ∀ ns : List Int, (ns.foldl max n ∈ n :: ns) ∧ ∀ y, y ∈ n :: ns → y ≤ ns.foldl max n := fun ns => by
  induction ns generalizing n with
  | nil => simp
  | cons m r ih =>
    obtain ⟨h1, h2⟩ := ih (max n m)
    simp only [List.foldl_cons]
    refine ⟨?_, fun y hy => ?_⟩
    · rcases List.mem_cons.mp h1 with e | e
      · rw [e]
        by_cases c : n ≤ m
        · have : max n m = m := by omega
          rw [this]
          simp
        · have : max n m = n := by omega
          rw [this]
          simp
      · exact List.mem_cons_of_mem _ (List.mem_cons_of_mem _ e)
    · rcases List.mem_cons.mp hy with e | e
      · subst e
        have := h2 (max y m) List.mem_cons_self
        omega
      · rcases List.mem_cons.mp e with e | e
        · subst e
          have := h2 (max n y) List.mem_cons_self
          omega
        · exact h2 y (List.mem_cons_of_mem _ e)

theorem min_fold (n : Int) : ∀ ns : List Int, (ns.foldl min n ∈ n :: ns) ∧ ∀ y, y ∈ n :: ns → ns.foldl min n ≤ y := fun ns => by
  induction ns generalizing n with
  | nil => simp
  | cons m r ih =>
    obtain ⟨h1, h2⟩ := ih (min n m)
    simp only [List.foldl_cons]
    refine ⟨?_, fun y hy => ?_⟩
    · rcases List.mem_cons.mp h1 with e | e
      · rw [e]
        by_cases c : n ≤ m
        · have : min n m = n := by omega
          rw [this]
          simp
        · have : min n m = m := by omega
          rw [this]
          simp
      · exact List.mem_cons_of_mem _ (List.mem_cons_of_mem _ e)
    · rcases List.mem_cons.mp hy with e | e
      · subst e
        have := h2 (min y m) List.mem_cons_self
        omega
      · rcases List.mem_cons.mp e with e | e
        · subst e
          have := h2 (min n y) List.mem_cons_self
          omega
        · exact h2 y (List.mem_cons_of_mem _ e)
theorem tyOf_eq {t : String} {k : Ty} (e : tyOf t = some k) : t = tyName k := by
  unfold tyOf at e
  cases h1 : t == "int" with
  | true =>
    rw [h1] at e
    cases e
    exact eq_of_beq h1
  | false =>
  cases h2 : t == "bool" with
  | true =>
    rw [h1, h2] at e
    cases e
    exact eq_of_beq h2
  | false =>
  cases h3 : t == "str" with
  | true =>
    rw [h1, h2, h3] at e
    cases e
    exact eq_of_beq h3
  | false =>
  cases h4 : t == "tuple" with
  | true =>
    rw [h1, h2, h3, h4] at e
    cases e
    exact eq_of_beq h4
  | false =>
  cases h5 : t == "list" with
  | true =>
    rw [h1, h2, h3, h4, h5] at e
    cases e
    exact eq_of_beq h5
  | false =>
  cases h6 : t == "dict" with
  | true =>
    rw [h1, h2, h3, h4, h5, h6] at e
    cases e
    exact eq_of_beq h6
  | false =>
    rw [h1, h2, h3, h4, h5, h6] at e
    cases e
theorem kind_rep {d : D} {v : V} {k : Ty} (rs : RelSt K ρ H M st) (r : Rep K ρ H d v) (e : kindD st d = some k) : TyX K.K H v (.type (tyName k)) := by
  unfold kindD at e
  split at e
  · cases e
    cases rep_non r
    exact .base .non
  · cases e
    cases rep_bl r
    exact .base (.bl _)
  · cases e
    cases rep_int r
    exact .base (.int _)
  · cases e
    cases rep_str r
    exact .base (.str _)
  · cases e
    obtain ⟨p, vs, rfl, h1, _, _⟩ := rep_tup r
    rcases h1 with ⟨_, _, h1 | ⟨o, h1⟩⟩ | ⟨o, its, n, h1, h2, _⟩
    · exact .base (.tup h1)
    · exact .fTuple h1
    · exact .kTuple h1 h2
  · cases e
    obtain ⟨p, vs, rfl, h1, _, _⟩ := rep_lst r
    exact .base (.lst h1.2.2)
  · cases e
    obtain ⟨p, vs, rfl, h1, _, _⟩ := rep_scr r
    rcases h1 with ⟨_, _, h1 | ⟨o, h1⟩⟩ | ⟨o, its, n, h1, h2, _⟩
    · exact .base (.lst h1)
    · exact .base (.frz h1)
    · exact .kList h1 h2
  · rename_i n
    split at e
    · rename_i ds hc
      cases e
      obtain ⟨p, vs, rfl, h1, _, _⟩ := lst_of (d := .ref n) (ds := ds) rs r (by simp only [litems]; rw [hc])
      exact .base (.lst h1)
    · rename_i hc
      obtain ⟨_, _, q⟩ := rs.cell _ _ hc
      exact q.elim
    · cases e
  · cases e
theorem kit_tab (K : PySem.W.Frag) (k t : Ty) : PySem.W.kitOne K (.type (tyName k)) (.type (tyName t)) = some (isTy k t) := by
  cases k <;> cases t <;> kernel_rfl


/-! ### dict(pairs), the keys being tuples -/
section
variable {X : L2.Cx} {M : Nat → Prop} {ζ : Zt} {ρ : List Addr} {H : Hp} {st : Sto} {pins : List (Addr × Obj)} {s : Shared} {σ : L2.St}
/-- an entry as it stands in the heap -/
def Ent1 (K : KZ) (ρ : List Addr) (H : Hp) (p : D × D) (x : NestedKey × Addr × Value) : Prop := x.1 = nkOf p.1 ∧ tkey p.1 = true ∧ Rep K ρ H p.1 (.ref x.2.1) ∧ ∃ u, RelV u x.2.2 ∧ Rep K ρ H p.2 u
def Ents (K : KZ) (ρ : List Addr) (H : Hp) : List (D × D) → List (NestedKey × Addr × Value) → Prop
  | [], [] => True
  | p :: r, x :: y => Ent1 K ρ H p x ∧ Ents K ρ H r y
  | _, _ => False
theorem Ents.length {K : KZ} {ρ : List Addr} {H : Hp} : ∀ {kvs : List (D × D)} {xs : List (NestedKey × Addr × Value)}, Ents K ρ H kvs xs → kvs.length = xs.length
  | [], [], _ => rfl
  | p :: r, x :: y, h => by simpa using Ents.length h.2
  | [], _ :: _, h => h.elim
  | _ :: _, [], h => h.elim
theorem Ents.any {K : KZ} {ρ : List Addr} {H : Hp} {k : NestedKey} : ∀ {kvs : List (D × D)} {xs : List (NestedKey × Addr × Value)}, Ents K ρ H kvs xs → (atKey xs k).isSome = kvs.any fun p => decide (nkOf p.1 = k)
  | [], [], _ => rfl
  | p :: r, x :: y, h => by
    have ih := Ents.any (k := k) h.2
    have e := h.1.1
    rw [← any_pairsH] at ih ⊢
    unfold pairsH at ih ⊢
    simp only [List.map_cons, List.any_cons]
    rw [ih, e]
  | [], _ :: _, h => h.elim
  | _ :: _, [], h => h.elim
theorem Ents.app {K : KZ} {ρ : List Addr} {H : Hp} {p : D × D} {x : NestedKey × Addr × Value} (g : Ent1 K ρ H p x) : ∀ {kvs : List (D × D)} {xs : List (NestedKey × Addr × Value)}, Ents K ρ H kvs xs → Ents K ρ H (kvs ++ [p]) (xs ++ [x])
  | [], [], _ => ⟨g, trivial⟩
  | _ :: _, _ :: _, h => ⟨h.1, Ents.app g h.2⟩
  | [], _ :: _, h => h.elim
  | _ :: _, [], h => h.elim
theorem Ents.over {K : KZ} {ρ : List Addr} {H : Hp} {k v : D} {x : NestedKey × Addr × Value} (g : Ent1 K ρ H (k, v) x) : ∀ {kvs : List (D × D)} {xs : List (NestedKey × Addr × Value)}, Ents K ρ H kvs xs → Ents K ρ H (kvs.map fun p => bif decide (nkOf p.1 = nkOf k) then (p.1, v) else p) (xs.map (putAt x.1 x.2.2))
  | [], [], _ => trivial
  | p :: r, y :: ys, h => by
    refine ⟨?_, Ents.over g h.2⟩
    obtain ⟨h1, h2, h3, h4⟩ := h.1
    show Ent1 K ρ H _ (putAt x.1 x.2.2 y)
    unfold putAt
    have gx : x.1 = nkOf k := g.1
    by_cases c : nkOf p.1 = nkOf k
    · rw [if_pos (by rw [h1, gx]; exact c)]
      simp only [c, decide_true, cond_true]
      exact ⟨h1, h2, h3, g.2.2.2⟩
    · rw [if_neg (by rw [h1, gx]; exact c)]
      simp only [c, decide_false, cond_false]
      exact h.1
  | [], _ :: _, h => h.elim
  | _ :: _, [], h => h.elim
theorem Ents.put {K : KZ} {ρ : List Addr} {H : Hp} {k v : D} {x : NestedKey × Addr × Value} (g : Ent1 K ρ H (k, v) x) {kvs : List (D × D)} {xs : List (NestedKey × Addr × Value)} (h : Ents K ρ H kvs xs) : Ents K ρ H (putN kvs k v) (storedH xs x.1 x.2.1 x.2.2) := by
  have e := h.any (k := nkOf k)
  have gx : x.1 = nkOf k := g.1
  unfold putN storedH
  rw [gx, e]
  cases c : (kvs.any fun p => decide (nkOf p.1 = nkOf k)) with
  | true =>
    have q := h.over g
    rw [gx] at q
    simpa using q
  | false =>
    have q := h.app g
    simp only [Bool.false_eq_true, if_false, cond_false]
    rw [← gx]
    exact q
theorem Ents.fold {K : KZ} {ρ : List Addr} {H : Hp} : ∀ (kvs : List (D × D)) (xs : List (NestedKey × Addr × Value)) (a : List (D × D)) (b : List (NestedKey × Addr × Value)), Ents K ρ H kvs xs → Ents K ρ H a b → Ents K ρ H (kvs.foldl (fun a p => putN a p.1 p.2) a) (storedAllH b xs)
  | [], [], _, _, _, h => h
  | p :: r, x :: y, a, b, g, h => by
    have q := h.put (k := p.1) (v := p.2) (x := x) g.1
    exact Ents.fold r y _ _ g.2 q
  | [], _ :: _, _, _, h, _ => h.elim
  | _ :: _, [], _, _, h, _ => h.elim
theorem Ents.keys {K : KZ} {ρ : List Addr} {H : Hp} : ∀ {kvs : List (D × D)} {xs : List (NestedKey × Addr × Value)}, Ents K ρ H kvs xs → (xs.map (·.1) = nkOfs (kvs.map (·.1)) ∧ (kvs.map (·.1)).all tkey = true) ∧ Reps K ρ H (kvs.map (·.1)) (xs.map fun x => V.ref x.2.1)
  | [], [], _ => ⟨⟨rfl, rfl⟩, by simp [Reps]⟩
  | p :: r, x :: y, h => by
    obtain ⟨⟨i1, i2⟩, i3⟩ := Ents.keys h.2
    obtain ⟨h1, h2, h3, _⟩ := h.1
    refine ⟨⟨?_, ?_⟩, ?_⟩
    · simp only [List.map_cons, nkOfs]
      rw [i1, h1]
    · simp only [List.map_cons, List.all_cons, h2, Bool.true_and]
      exact i2
    · simp only [List.map_cons, Reps]
      exact ⟨_, _, rfl, h3, i3⟩
  | [], _ :: _, h => h.elim
  | _ :: _, [], h => h.elim
theorem Ents.vals {K : KZ} {ρ : List Addr} {H : Hp} : ∀ {kvs : List (D × D)} {xs : List (NestedKey × Addr × Value)}, Ents K ρ H kvs xs → ∃ us, Vals us (xs.map (·.2.2)) ∧ Reps K ρ H (kvs.map (·.2)) us
  | [], [], _ => ⟨[], .nil, by simp [Reps]⟩
  | p :: r, x :: y, h => by
    obtain ⟨us, i1, i2⟩ := Ents.vals h.2
    obtain ⟨_, _, _, u, h1, h2⟩ := h.1
    refine ⟨u :: us, .cons h1 i1, ?_⟩
    simp only [List.map_cons, Reps]
    exact ⟨_, _, rfl, h2, i2⟩
  | [], _ :: _, h => h.elim
  | _ :: _, [], h => h.elim
theorem Ents.get {K : KZ} {ρ : List Addr} {H : Hp} : ∀ {kvs : List (D × D)} {xs : List (NestedKey × Addr × Value)}, Ents K ρ H kvs xs → ∀ x ∈ xs, ∃ p, Ent1 K ρ H p x
  | [], [], _, _, q => by simp at q
  | p :: r, x :: y, h, z, q => by
    rcases List.mem_cons.mp q with rfl | q
    · exact ⟨p, h.1⟩
    · exact Ents.get h.2 z q
  | [], _ :: _, h, _, _ => h.elim
  | _ :: _, [], h, _, _ => h.elim
/-- the pairs that stand in a list -/
theorem pairs_rep (I : Inv X pins σ H s) : ∀ {ds : List D} {vs : List V} {its : List Value} {kvs : List (D × D)}, pairsD ds = some kvs → kvs.all (fun p => tkey p.1) = true → Reps (kz X.fw ζ) ρ H ds vs → Vals vs its →
    ∃ (ts : List Addr) (xs : List (NestedKey × Addr × Value)), its = ts.map Value.ref ∧ ts.length = xs.length ∧ Ents (kz X.fw ζ) ρ H kvs xs ∧ ∀ (j : Nat) (t : Addr) (x : NestedKey × Addr × Value), ts[j]? = some t → xs[j]? = some x → PairAt s.heap t (.ref x.2.1) x.2.2
  | [], vs, its, kvs, e, _, r, hv => by
    simp only [pairsD, Option.some.injEq] at e
    subst e
    simp only [Reps] at r
    subst r
    cases hv
    exact ⟨[], [], rfl, rfl, trivial, by simp⟩
  | .tup [k, v] :: ds, vs, its, kvs, e, c, r, hv => by
    simp only [pairsD] at e
    cases e2 : pairsD ds with
    | none =>
      rw [e2] at e
      cases e
    | some kvs2 =>
      rw [e2] at e
      cases e
      simp only [List.all_cons, Bool.and_eq_true] at c
      simp only [Reps] at r
      obtain ⟨z, zs, rfl, r1, r2⟩ := r
      cases hv with
      | cons hv1 hv2 =>
        obtain ⟨ts, xs, rfl, i1, i2, i3⟩ := pairs_rep I e2 c.2 r2 hv2
        obtain ⟨p, ws, rfl, h1, h2, h3⟩ := rep_tup r1
        obtain ⟨x, y, rfl, rx, ry⟩ := reps2 h3
        obtain ⟨its', r', pl, _⟩ := I.tuple h1.sq
        obtain ⟨u1, u2, rfl, ru1, ru2⟩ := vals2 r'
        obtain ⟨t, rfl, _⟩ := tkey_is I c.1 rx ru1
        cases hv1
        have hx : x = .ref t := by
          cases k with
          | tup _ =>
            obtain ⟨_, _, rfl, _⟩ := rep_tup rx
            cases ru1
            rfl
          | _ => cases c.1
        subst hx
        refine ⟨p :: ts, (nkOf k, t, u2) :: xs, rfl, by simp [i1], ⟨⟨rfl, c.1, rx, y, ru2, ry⟩, i2⟩, fun j t' x' e1 e2 => ?_⟩
        cases j with
        | zero =>
          simp only [List.getElem?_cons_zero, Option.some.injEq] at e1 e2
          subst e1
          subst e2
          exact .inl pl
        | succ j =>
          simp only [List.getElem?_cons_succ] at e1 e2
          exact i3 j t' x' e1 e2
/-- dict(pairs) -/
theorem dict_ok (hc : X.calm = true) (hu : X.A.units + 66 < cLine) {d : D} {x : V} {u : Value} {ds : List D} {kvs : List (D × D)} {Q : VK} (I : Inv X pins σ H s) (rs : RelSt (kz X.fw ζ) ρ H M st) (rd : Rep (kz X.fw ζ) ρ H d x) (rx : RelV x u)
    (e1 : litems st d = some ds) (e2 : pairsD ds = some kvs) (e3 : kvs.all (fun p => tkey p.1) = true) (e4 : fit kvs.length = true)
    (q : ∀ p H', H p = none → (∃ xs, H' = upd H p (DicO X.prog X.w p xs)) → Rep (kz X.fw ζ) ρ H' (.dic ((kvs.foldl (fun a p => putN a p.1 p.2) []).map (·.1)) ((kvs.foldl (fun a p => putN a p.1 p.2) []).map (·.2))) (.ref p) → Q (.ref p) H') :
    wpAny (model X.prog X.w) X.A (PySem.call (Value.type "dict") [u]) (EP X pins σ Q) X.xe s := by
  obtain ⟨p, vs, rfl, h1, h2, h3⟩ := lst_of rs rd e1
  cases rx
  obtain ⟨its, r', ⟨o, n, ho, hcl, hdc, hdat⟩, hz⟩ := I.list (.of h1)
  obtain ⟨ts, xs, rfl, i1, i2, i3⟩ := pairs_rep I e2 e3 h3 r'
  have hlen : xs.length ≤ sizeLine := by
    rw [← i2.length]
    exact fit_le e4
  have hkeys : ∀ x ∈ xs, (nestedKind X.prog X.w).is s.heap x.1 x.2.1 := keys_is I i2.keys.1.1 i2.keys.1.2 i2.keys.2
  let ps : List (Value × Value) := xs.map fun x => (Value.ref x.2.1, x.2.2)
  have hroom : (nestedKind X.prog X.w).room X.A.in1.in1 := by
    show X.A.units + 1 + 1 + 8 < cLine
    omega
  have PA := PairArg.list (prog := X.prog) (w := X.w) p (ts.map Value.ref).toArray (fun j => ts.getD j 0) ps
  have hps : ps.length = xs.length := by simp [ps]
  have hk0 : ∀ (j : Nat) (k v : Value), ps[j]? = some (k, v) → ∃ x, xs[j]? = some x ∧ k = .ref x.2.1 ∧ v = x.2.2 := fun j k v ej => by
    simp only [ps, List.getElem?_map] at ej
    cases ex : xs[j]? with
    | none =>
      rw [ex] at ej
      cases ej
    | some x =>
      rw [ex] at ej
      cases ej
      exact ⟨x, rfl, rfl, rfl⟩
  refine call_dict_pairsH (s := s) (ps := xs) PA (I.ok.hd hc) hroom ⟨⟨o, n, ho, hcl, hdc, hdat⟩, ?_, fun j k v ej => ?_⟩ ⟨hps.symm, fun i k v ej => ?_⟩ (fun h' hk x hx => nestedKind_stays.all h' (fun b o _ e => hk b o (Nat.ne_of_lt (Heap.lt_size e)) (by simp) e) _ _ (hkeys x hx)) (by rw [hps]; exact hlen) fun h' tk hd' hk => ?_
  · simp [hps, i1]
  · obtain ⟨x, ex, rfl, rfl⟩ := hk0 j k v ej
    have hj : j < ts.length := by
      rw [i1]
      exact (List.getElem?_eq_some_iff.mp ex).1
    have et : ts[j]? = some (ts.getD j 0) := by simp [hj]
    refine ⟨?_, i3 j _ x et ex⟩
    simp [hj]
  · obtain ⟨x, ex, rfl, rfl⟩ := hk0 i k v ej
    exact ⟨x.1, x.2.1, ex, rfl⟩
  · obtain ⟨o', es, ep, g1, g2, g3, g4, g5, g6⟩ := hd'
    have E := Ents.fold kvs xs [] [] i2 trivial
    have hp : H s.heap.objs.size = none := I.hok.fresh (Nat.le_refl _)
    have hl : (storedAllH [] xs).length ≤ sizeLine := by
      have := storedAllH_length xs ([] : List (NestedKey × Addr × Value))
      simp only [List.length_nil] at this
      omega
    have hnm : (s.heap.objs.size == sysModules) = false := by
      simp only [beq_eq_false_iff_ne]
      exact Nat.ne_of_gt I.big
    have I2 : Inv X pins σ (upd H s.heap.objs.size (DicO X.prog X.w s.heap.objs.size (storedAllH [] xs))) { s with heap := h', toks := tk } :=
      I.laid (fun b o e => hk b o (by simp) e) (Nat.le_refl _) ⟨⟨o', es, ep, g1, g2, g3, g4, g6⟩, ⟨o', g1⟩, fun a1 a2 ⟨o', es, ep, g1, g2⟩ w => ⟨o', es, ep, w _ g1, g2⟩⟩
    refine ⟨.ref s.heap.objs.size, _, I2, rfl, q _ _ hp ⟨_, rfl⟩ ?_⟩
    obtain ⟨us, v1, v2⟩ := E.vals
    have stp : Step ρ H ρ (upd H s.heap.objs.size (DicO X.prog X.w s.heap.objs.size (storedAllH [] xs))) := Step.new hp
    simp only [Rep]
    exact ⟨_, _, us, rfl, ⟨rs.fresh hp, rs.freshZ hp⟩, upd_same, ⟨hnm, hl⟩, E.keys.1, Reps.step stp _ _ E.keys.2, v1, Reps.step stp _ _ v2⟩
end
/-- the built-in functions that are proved here -/
def biYes : Bi → Bool
  | .len => true | .tuple => true | .int => true | .bool => true | .max => true | .min => true | .sum => true | .any => true | .all => true | .isinstance => true | .abs => true | .dict => true
  | _ => false
theorem bi_ok (hc : X.calm = true) (hu : X.A.units + 66 < cLine) (M : Nat → Prop) (b : Bi) (hb : biYes b = true) : CallR X (biVal b) (rDs X.fw M fun st ds => biD st b ds) := by
  intro pins s σ H xs us Q I r h
  obtain ⟨ζ, ρ, st, ds, rs, rd, h⟩ := h
  replace h : Out (kz X.fw ζ) M (Rep (kz X.fw ζ)) E0' ρ H (biD st b ds) Q := h
  have fin : ∀ {d : D} {z : V}, Out (kz X.fw ζ) M (Rep (kz X.fw ζ)) E0' ρ H (.ok d st) Q → Rep (kz X.fw ζ) ρ H d z → Q z H := fun h r => h.val rs r
  have some_of : ∀ {α : Type} {o : Option α} {f : α → D}, Out (kz X.fw ζ) M (Rep (kz X.fw ζ)) E0' ρ H (Rz.of (o.map f) st) Q → ∃ a, o = some a ∧ Out (kz X.fw ζ) M (Rep (kz X.fw ζ)) E0' ρ H (.ok (f a) st) Q := fun {α o f} h => by
    cases o with
    | none => exact h.elim
    | some a => exact ⟨a, rfl, h⟩
  unfold biD at h
  split at h
  · -- len
    obtain ⟨x, rfl, rx⟩ := reps1 rd
    obtain ⟨n, e, h⟩ := some_of h
    exact call_len pins s σ H _ us Q I r ⟨x, n, rfl, len_rep' rs rx e, fin h mk_int⟩
  · cases hb
  · -- tuple
    obtain ⟨x, rfl, rx⟩ := reps1 rd
    obtain ⟨n, e, h⟩ := some_of h
    rename_i d h0
    clear h0
    cases d with
    | tup es =>
      cases e
      obtain ⟨p, vs, rfl, h1, h2, h3⟩ := rep_tup rx
      exact call_tupleT pins s σ H _ us Q I r ⟨p, vs, rfl, h1.sq, fin h rx⟩
    | no => cases e
    | non => cases e
    | bl _ => cases e
    | int _ => cases e
    | str _ => cases e
    | set _ => cases e
    | dic _ _ => cases e
    | lam _ _ => cases e
    | fn _ => cases e
    | ty _ => cases e
    | _ =>
      obtain ⟨p, vs, rfl, h1, h2, h3⟩ := sitL_of rs rx e
      exact call_tuple_of pins s σ H _ us Q I r ⟨p, vs, rfl, .inl ⟨h1, fun q hq => h _ ρ _ (Step.new hq) (rs.new hq) (Rep.tupNew rs hq h2 h3)⟩⟩
  · obtain ⟨x, rfl, rx⟩ := reps1 rd
    cases rep_int rx
    exact call_int1 pins s σ H _ us Q I r (.inl ⟨_, rfl, fin h mk_int⟩)
  · obtain ⟨x, rfl, rx⟩ := reps1 rd
    cases rep_bl rx
    exact call_int1 pins s σ H _ us Q I r (.inr ⟨_, rfl, fin h mk_int⟩)
  · obtain ⟨x, rfl, rx⟩ := reps1 rd
    cases rep_int rx
    exact call_bool1 pins s σ H _ us Q I r (.inl ⟨_, rfl, fin h mk_bl⟩)
  · obtain ⟨x, rfl, rx⟩ := reps1 rd
    cases rep_bl rx
    exact call_bool1 pins s σ H _ us Q I r (.inr ⟨_, rfl, fin h mk_bl⟩)
  · obtain ⟨x, y, rfl, rx, ry⟩ := reps2 rd
    cases rep_int rx
    cases rep_int ry
    exact call_max2 hc pins s σ H _ us Q I r ⟨_, _, rfl, fin h mk_int⟩
  · obtain ⟨x, y, rfl, rx, ry⟩ := reps2 rd
    cases rep_int rx
    cases rep_int ry
    exact call_min2 hc pins s σ H _ us Q I r ⟨_, _, rfl, fin h mk_int⟩
  · obtain ⟨x, rfl, rx⟩ := reps1 rd
    split at h
    · rename_i n ns e
      obtain ⟨ds, e1, e2⟩ := Option.bind_eq_some_iff.mp e
      obtain ⟨p, vs, rfl, h1, h2, h3⟩ := sitL_of rs rx e1
      rw [rep_ints e2 h3] at h1
      refine cr_max hc pins s σ H _ us Q I r ⟨p, n :: ns, rfl, h1, by simp, fun m hm hle => ?_⟩
      obtain ⟨f1, f2⟩ := max_fold n ns
      have : m = ns.foldl max n := Int.le_antisymm (f2 m hm) (hle _ f1)
      rw [this]
      exact fin h mk_int
    · exact h.elim
  · obtain ⟨x, rfl, rx⟩ := reps1 rd
    split at h
    · rename_i n ns e
      obtain ⟨ds, e1, e2⟩ := Option.bind_eq_some_iff.mp e
      obtain ⟨p, vs, rfl, h1, h2, h3⟩ := sitL_of rs rx e1
      rw [rep_ints e2 h3] at h1
      refine cr_min hc pins s σ H _ us Q I r ⟨p, n :: ns, rfl, h1, by simp, fun m hm hle => ?_⟩
      obtain ⟨f1, f2⟩ := min_fold n ns
      have : m = ns.foldl min n := Int.le_antisymm (hle _ f1) (f2 m hm)
      rw [this]
      exact fin h mk_int
    · exact h.elim
  · obtain ⟨x, rfl, rx⟩ := reps1 rd
    obtain ⟨ns, e, h⟩ := some_of h
    obtain ⟨ds, e1, e2⟩ := Option.bind_eq_some_iff.mp e
    obtain ⟨p, vs, rfl, h1, h2, h3⟩ := sitL_of rs rx e1
    rw [rep_ints e2 h3] at h1
    exact cr_sum hc pins s σ H _ us Q I r ⟨p, ns, rfl, h1, fin h mk_int⟩
  · obtain ⟨x, rfl, rx⟩ := reps1 rd
    obtain ⟨ns, e, h⟩ := some_of h
    obtain ⟨ds, e1, e2⟩ := Option.bind_eq_some_iff.mp e
    obtain ⟨p, vs, rfl, h1, h2, h3⟩ := sitL_of rs rx e1
    rw [rep_bools e2 h3] at h1
    exact cr_any hc pins s σ H _ us Q I r ⟨p, ns, rfl, h1, fin h mk_bl⟩
  · obtain ⟨x, rfl, rx⟩ := reps1 rd
    obtain ⟨ns, e, h⟩ := some_of h
    obtain ⟨ds, e1, e2⟩ := Option.bind_eq_some_iff.mp e
    obtain ⟨p, vs, rfl, h1, h2, h3⟩ := sitL_of rs rx e1
    rw [rep_bools e2 h3] at h1
    exact cr_all hc pins s σ H _ us Q I r ⟨p, ns, rfl, h1, fin h mk_bl⟩
  · cases hb
  · obtain ⟨x, y, rfl, rx, ry⟩ := reps2 rd
    cases rep_ty ry
    obtain ⟨k, e, h⟩ := some_of h
    unfold isA at e
    split at e
    · rename_i k1 k2 e1 e2
      cases e
      exact call_isi pins s σ H _ us Q I r ⟨x, .ty (tyName k2), _, _, _, by rw [tyOf_eq e2], .ty _, kind_rep rs rx e1, kit_tab _ _ _, fin h mk_bl⟩
    · cases e
  · obtain ⟨x, rfl, rx⟩ := reps1 rd
    cases rep_int rx
    exact call_abs pins s σ H _ us Q I r ⟨_, rfl, fin h mk_int⟩
  · cases hb
  · obtain ⟨x, rfl, rx⟩ := reps1 rd
    obtain ⟨u, rfl, ru⟩ := vals1 r
    split at h
    · rename_i kvs e
      obtain ⟨ds, e1, e2⟩ := Option.bind_eq_some_iff.mp e
      cases c1 : kvs.all (fun p => tkey p.1) with
      | false =>
        rw [c1] at h
        exact h.elim
      | true =>
        cases c2 : fit kvs.length with
        | false =>
          rw [c1, c2] at h
          exact h.elim
        | true =>
          rw [c1, c2] at h
          simp only [Bool.and_self, cond_true] at h
          refine dict_ok hc hu I rs rx ru e1 e2 c1 c2 fun p H' hp eH rd' => ?_
          obtain ⟨xs, rfl⟩ := eH
          exact h _ ρ _ (Step.new hp) (rs.new hp) rd'
    · exact h.elim
  · exact h.elim
end
end Ev

end
section
set_option Elab.async false
set_option linter.all false
set_option maxRecDepth 100000
set_option autoImplicit false
set_option maxHeartbeats 1000000
/-! EvG: the readings of expressions, one rule for each form. -/
namespace Ev
open PySem L2

/-- what a frame's run fixes: the evaluator's context, the bases, the wish about errors, the error classes, tables, closures -/
structure Gc where
  c : Cx
  M : Nat → Prop
  W : XK
  cl : Nat → Addr
  T : List (Addr × Str)
  q : Nat → Str
  clo : Addr → Addr → Nat → List (Option V) → Prop
  le : ∀ m, M m → m ≤ c.n0
abbrev Gc.z (g : Gc) (l : List Addr) : Zt := ⟨l, g.T, g.q, g.clo⟩
abbrev Gc.k (g : Gc) (X : L2.Cx) (l : List Addr) : KZ := kz X.fw (g.z l)
/-- an error of class c with what w reaches the wish -/
def ErX (g : Gc) (K : KZ) : Nat → D → List Addr → Hp → Prop := fun c w ρ H => ∀ dx v, dx ∉ ρ → H dx = some (.xd [("what", v)]) → Rep K ρ H w v → g.W (.ref (g.cl c)) (some dx) H
/-- a run of the evaluator as a reading -/
def tR {α β : Type} (g : Gc) (X : L2.Cx) (Rl : KZ → List Addr → Hp → α → β → Prop) (f : List D → Sto → Rz α) (σ : L2.St) (H : Hp) (Q : β → Hp → Prop) : Prop :=
  ∃ l ρ env st, RelSt (g.k X l) ρ H g.M st ∧ RepE (g.k X l) ρ H env σ ∧ Out (g.k X l) g.M (Rl (g.k X l)) (ErX g (g.k X l)) ρ H (f env st) Q
def tE (g : Gc) (X : L2.Cx) (e : E) : TE := fun σ H Q => tR g X Rep (evE g.c e) σ H Q
def tEs (g : Gc) (X : L2.Cx) (es : Es) : TA := fun σ H Q => tR g X Reps (evEs g.c es) σ H Q
def tT (g : Gc) (X : L2.Cx) (t : T) : TT := fun σ H Q => tR g X (fun _ _ _ b k => b = k) (evT g.c t) σ H Q
/-- fresh lists -/
def RelL (K : KZ) (ρ : List Addr) (H : Hp) (ds : List D) (vs : List V) : Prop := Reps K ρ H ds vs ∧ vs.length ≤ sizeLine
def freshQ (Q : VK) : List V → Hp → Prop := fun vs H => ∀ p, H p = none → Q (.ref p) (upd H p (.lst vs))
def tL (g : Gc) (X : L2.Cx) (l : L) : TE := fun σ H Q => tR g X RelL (evL g.c l) σ H (freshQ Q)

section
variable {X : L2.Cx} {g : Gc} {σ : L2.St} {H H1 : Hp} {ρ ρ1 : List Addr} {st : Sto} {env : List D} {l : List Addr} {α β γ δ : Type}
theorem _root_.L2.PE.mono {e : Expr} {t t' : TE} (h : PE X e t) (m : ∀ σ H Q, t' σ H Q → t σ H Q) : PE X e t' := ⟨fun pins s σ H Q I q => h.run pins s σ H Q I (m _ _ _ q)⟩
theorem _root_.L2.PT.mono {e : Expr} {t t' : TT} (h : PT X e t) (m : ∀ σ H Q, t' σ H Q → t σ H Q) : PT X e t' := ⟨fun pins s σ H Q I q => h.run pins s σ H Q I (m _ _ _ q)⟩
theorem _root_.L2.PA.mono {e : List Expr} {t t' : TA} (h : PA X e t) (m : ∀ σ H Q, t' σ H Q → t σ H Q) : PA X e t' := ⟨fun pos pins s σ H Q I q => h.run pos pins s σ H Q I (m _ _ _ q)⟩
theorem Out.mono {K : KZ} {M : Nat → Prop} {Rl : List Addr → Hp → α → β → Prop} {Er : Nat → D → List Addr → Hp → Prop} {r : Rz α} {Q Q' : β → Hp → Prop} (h : Out K M Rl Er ρ H r Q) (m : ∀ v H, Q v H → Q' v H) : Out K M Rl Er ρ H r Q' := by
  cases r with
  | ok d st' => exact fun v ρ' H' s rs r => m _ _ (h v ρ' H' s rs r)
  | er c w st' => exact h
  | no => exact h
/-- no error comes -/
def Rz.NoEr (r : Rz α) : Prop := ∀ c w s', r ≠ .er c w s'
theorem Out.noEr {K : KZ} {M : Nat → Prop} {Rl : List Addr → Hp → α → β → Prop} {Er Er' : Nat → D → List Addr → Hp → Prop} {r : Rz α} {Q : β → Hp → Prop} (n : r.NoEr) (h : Out K M Rl Er ρ H r Q) : Out K M Rl Er' ρ H r Q := by
  cases r with
  | ok d st' => exact h
  | er c w st' => exact absurd rfl (n c w st')
  | no => exact h
/-- first a part, then the rest -/
theorem tR.bind {Rl : KZ → List Addr → Hp → α → β → Prop} {Rl' : List Addr → Hp → γ → δ → Prop} {f : List D → Sto → Rz α} {k : α → Sto → Rz γ} {Q : δ → Hp → Prop} {Q1 : β → Hp → Prop}
    (rs : RelSt (g.k X l) ρ H g.M st) (re : RepE (g.k X l) ρ H env σ) (h : Out (g.k X l) g.M Rl' (ErX g (g.k X l)) ρ H ((f env st).bind k) Q)
    (cont : ∀ d st1 v ρ1 H1, Step ρ H ρ1 H1 → RelSt (g.k X l) ρ1 H1 g.M st1 → RepE (g.k X l) ρ1 H1 env σ → Rl (g.k X l) ρ1 H1 d v → Out (g.k X l) g.M Rl' (ErX g (g.k X l)) ρ1 H1 (k d st1) Q → Q1 v H1) : tR g X Rl f σ H Q1 :=
  ⟨l, ρ, env, st, rs, re, Out.bind h fun d st1 v ρ1 H1 s r rl o => cont d st1 v ρ1 H1 s r (RepE.step s _ _ re) rl o⟩
/-- the same, the outcome told -/
theorem Out.bindE {K : KZ} {M : Nat → Prop} {Rl : List Addr → Hp → α → β → Prop} {Rl' : List Addr → Hp → γ → δ → Prop} {Er : Nat → D → List Addr → Hp → Prop} {x : Rz α} {k : α → Sto → Rz γ} {Q : δ → Hp → Prop} {Q1 : β → Hp → Prop} (h : Out K M Rl' Er ρ H (x.bind k) Q)
    (c : ∀ d st1 v ρ1 H1, x = .ok d st1 → Step ρ H ρ1 H1 → RelSt K ρ1 H1 M st1 → Rl ρ1 H1 d v → Out K M Rl' Er ρ1 H1 (k d st1) Q → Q1 v H1) : Out K M Rl Er ρ H x Q1 := by
  cases x with
  | ok d st' => exact fun v ρ' H' s r rl => c d st' v ρ' H' rfl s r rl (Out.step s h)
  | er c w st' => exact h
  | no => exact h
theorem tR.bindE {Rl : KZ → List Addr → Hp → α → β → Prop} {Rl' : List Addr → Hp → γ → δ → Prop} {f : List D → Sto → Rz α} {k : α → Sto → Rz γ} {Q : δ → Hp → Prop} {Q1 : β → Hp → Prop}
    (rs : RelSt (g.k X l) ρ H g.M st) (re : RepE (g.k X l) ρ H env σ) (h : Out (g.k X l) g.M Rl' (ErX g (g.k X l)) ρ H ((f env st).bind k) Q)
    (cont : ∀ d st1 v ρ1 H1, f env st = .ok d st1 → Step ρ H ρ1 H1 → RelSt (g.k X l) ρ1 H1 g.M st1 → RepE (g.k X l) ρ1 H1 env σ → Rl (g.k X l) ρ1 H1 d v → Out (g.k X l) g.M Rl' (ErX g (g.k X l)) ρ1 H1 (k d st1) Q → Q1 v H1) : tR g X Rl f σ H Q1 :=
  ⟨l, ρ, env, st, rs, re, Out.bindE h fun d st1 v ρ1 H1 e s r rl o => cont d st1 v ρ1 H1 e s r (RepE.step s _ _ re) rl o⟩
theorem RepE.get : ∀ {env : List D} {σ : L2.St} {i : Nat} {d : D} {K : KZ}, RepE K ρ H env σ → env[i]? = some d → d ≠ .no → ∃ v, σ[i]? = some (some v) ∧ Rep K ρ H d v
  | [], _, i, _, _, _, e, _ => by simp at e
  | d :: ds, σ, 0, _, K, h, e, n => by
    simp only [RepE] at h
    obtain ⟨o, r, rfl, h1, h2⟩ := h
    simp at e
    subst e
    rcases h1 with h1 | ⟨v, rfl, h3⟩
    · exact absurd h1 n
    · exact ⟨v, rfl, h3⟩
  | d :: ds, σ, i + 1, _, K, h, e, n => by
    simp only [RepE] at h
    obtain ⟨o, r, rfl, h1, h2⟩ := h
    simpa using RepE.get h2 (by simpa using e) n
theorem RepE.length : ∀ {env : List D} {σ : L2.St} {K : KZ}, RepE K ρ H env σ → σ.length = env.length
  | [], _, _, h => by
    simp only [RepE] at h
    rw [h]
    rfl
  | d :: ds, σ, K, h => by
    simp only [RepE] at h
    obtain ⟨o, r, rfl, h1, h2⟩ := h
    simp [RepE.length h2]
theorem RepE.set : ∀ {env : List D} {σ : L2.St} {d : D} {v : V} {K : KZ} (i : Nat), RepE K ρ H env σ → Rep K ρ H d v → RepE K ρ H (env.set i d) (σ.set i (some v))
  | [], _, _, _, _, _, h, _ => by
    simp only [RepE] at h
    rw [h]
    simp [RepE]
  | d :: ds, σ, _, _, K, 0, h, q => by
    simp only [RepE] at h
    obtain ⟨o, r, rfl, h1, h2⟩ := h
    simp only [List.set_cons_zero, RepE]
    exact ⟨_, r, rfl, .inr ⟨_, rfl, q⟩, h2⟩
  | d :: ds, σ, _, _, K, i + 1, h, q => by
    simp only [RepE] at h
    obtain ⟨o, r, rfl, h1, h2⟩ := h
    simp only [List.set_cons_succ, RepE]
    exact ⟨o, _, rfl, h1, RepE.set i h2 q⟩
theorem RepE.wipe1 : ∀ {env : List D} {σ : L2.St} {K : KZ} (i : Nat), RepE K ρ H env σ → RepE K ρ H (env.set i .no) (σ.set i none)
  | [], _, _, _, h => by
    simp only [RepE] at h
    rw [h]
    simp [RepE]
  | d :: ds, σ, K, 0, h => by
    simp only [RepE] at h
    obtain ⟨o, r, rfl, h1, h2⟩ := h
    simp only [List.set_cons_zero, RepE]
    exact ⟨_, r, rfl, .inl trivial, h2⟩
  | d :: ds, σ, K, i + 1, h => by
    simp only [RepE] at h
    obtain ⟨o, r, rfl, h1, h2⟩ := h
    simp only [List.set_cons_succ, RepE]
    exact ⟨o, _, rfl, h1, RepE.wipe1 i h2⟩
theorem RepE.wipe {env : List D} {σ : L2.St} {K : KZ} (h : RepE K ρ H env σ) : ∀ vs : List Nat, RepE K ρ H (wipeD env vs) (L2.wipe σ vs)
  | [] => h
  | v :: vs => by
    unfold wipeD L2.wipe
    exact RepE.wipe1 v (RepE.wipe h vs)

/-! ### leaves -/
variable {a b d : E} {x y z : Expr} {pos : Pos}
theorem s_var {i : Nat} {n : Str} (hN : X.N[i]? = some n) (hv : Vis X.env.scope n) (hd : (n == ("__debug__" : Str)) = false) (hcd : (n == ("__classdict__" : Str)) = false) : PE X (.Name n pos) (tE g X (.var i)) :=
  (pe_var hN hv hd hcd).mono fun σ H Q h => by
    obtain ⟨l, ρ, env, st, rs, re, h⟩ := h
    simp only [evE] at h
    split at h
    · rename_i d e
      split at h
      · exact h.elim
      · rename_i hn
        obtain ⟨v, e2, r⟩ := RepE.get re e (fun z => hn z)
        exact ⟨v, e2, Out.val h rs r⟩
    · exact h.elim
/-- a value that stands in every heap -/
def Sure (K : Fw) (d : D) (v : V) : Prop := ∀ ζ ρ H, Rep (kz K ζ) ρ H d v
theorem s_sure {e : Expr} {d : D} {v : V} (h : PE X e (tC v)) (r : Sure X.fw d v) : PE X e (tE g X (.con d)) := h.mono fun σ H Q h => by
  obtain ⟨l, ρ, env, st, rs, re, h⟩ := h
  simp only [evE] at h
  exact Out.val h rs (r _ _ _)
theorem s_glo {e : Expr} {k : Nat} {d : D} {v : V} (h : PE X e (tC v)) (hk : g.c.glo k = some d) (r : Sure X.fw d v) : PE X e (tE g X (.glo k)) := h.mono fun σ H Q h => by
  obtain ⟨l, ρ, env, st, rs, re, h⟩ := h
  simp only [evE, hk] at h
  exact Out.val h rs (r _ _ _)

/-! ### operators -/
theorem binD_ne {op : Bop} {x y : D} : (binD st op x y).NoEr := fun c w s' h => by
  unfold binD at h
  simp only [Bool.cond_eq_ite] at h
  repeat' (split at h)
  all_goals cases h
theorem of_ne {α β : Type} {o : Option α} {f : α → β} : (Rz.of (o.map f) st).NoEr := fun c w s' h => by
  cases o <;> cases h
theorem cmpD_ne {op : Cop} {x y : D} : (cmpD st op x y).NoEr := fun c w s' h => by
  unfold cmpD at h
  simp only [Bool.cond_eq_ite] at h
  repeat' (split at h)
  all_goals cases h
theorem ixD_ne {x y : D} : (ixD st x y).NoEr := fun c w s' h => by
  unfold ixD at h
  simp only [Bool.cond_eq_ite] at h
  repeat' (split at h)
  all_goals cases h
theorem slD_ne {x : D} {lo hi : Option Int} : (slD st x lo hi).NoEr := fun c w s' h => by
  unfold slD at h
  simp only [Bool.cond_eq_ite] at h
  repeat' (split at h)
  all_goals cases h
theorem biD_ne {b : Bi} {ds : List D} : (biD st b ds).NoEr := fun c w s' h => by
  unfold biD at h
  simp only [Bool.cond_eq_ite] at h
  repeat' (split at h)
  all_goals first | cases h | exact of_ne _ _ _ h
theorem s_bin {op : Bop} (ha : PE X x (tE g X a)) (hb : PE X y (tE g X b)) : PE X (.BinOp x (opOf op) y pos) (tE g X (.bin op a b)) :=
  (pe_op (bin_ok g.M op) ha hb).mono fun σ H Q h => by
    obtain ⟨l, ρ, env, st, rs, re, h⟩ := h
    simp only [evE] at h
    refine tR.bind rs re h fun d st1 v ρ1 H1 s1 rs1 re1 r1 h1 => ?_
    refine tR.bind rs1 re1 h1 fun d2 st2 v2 ρ2 H2 s2 rs2 re2 r2 h2 => ?_
    exact ⟨_, ρ2, st2, d, d2, rs2, Rep.step s2 _ _ r1, r2, Out.noEr binD_ne h2⟩
theorem s_neg (ha : PE X x (tE g X a)) : PE X (.UnaryOp .USub x pos) (tE g X (.neg a)) :=
  (pe_un un_neg ha).mono fun σ H Q h => by
    obtain ⟨l, ρ, env, st, rs, re, h⟩ := h
    simp only [evE] at h
    refine tR.bind rs re h fun d st1 v ρ1 H1 s1 rs1 re1 r1 h1 => ?_
    split at h1
    · rename_i i
      cases rep_int r1
      exact ⟨i, rfl, Out.val h1 rs1 mk_int⟩
    · exact h1.elim
theorem m_cmp {op : Cop} {Q : VK} (h : tE g X (.cmp op a b) σ H Q) : tOp (rD X.fw g.M fun st a b => cmpD st op a b) (tE g X a) (tE g X b) σ H Q := by
    obtain ⟨l, ρ, env, st, rs, re, h⟩ := h
    simp only [evE] at h
    refine tR.bind rs re h fun d st1 v ρ1 H1 s1 rs1 re1 r1 h1 => ?_
    refine tR.bind rs1 re1 h1 fun d2 st2 v2 ρ2 H2 s2 rs2 re2 r2 h2 => ?_
    exact ⟨_, ρ2, st2, d, d2, rs2, Rep.step s2 _ _ r1, r2, Out.noEr cmpD_ne h2⟩
theorem s_cmp {op : Cop} (hu : X.A.units + 66 < cLine) (hm : behindInMarks (copOf op) y = false) (ha : PE X x (tE g X a)) (hb : PE X y (tE g X b)) : PE X (.Compare x [copOf op] [y] pos) (tE g X (.cmp op a b)) :=
  (pe_cmpR (cmp_ok hu g.M op) ha hb hm).mono fun σ H Q h => m_cmp h
/-- a comparison's outcome is a bool, the store stays -/
theorem cmpD_bl {op : Cop} {x y d : D} {s' : Sto} (h : cmpD st op x y = .ok d s') : ∃ k, d = .bl k ∧ s' = st := by
  unfold cmpD at h
  simp only [Bool.cond_eq_ite] at h
  repeat' (split at h)
  all_goals first | (cases h; exact ⟨_, rfl, rfl⟩) | cases h
theorem m_chn {op op2 : Cop} {Q : VK} (h : tE g X (.chn op op2 a b d) σ H Q) : tChain (rD X.fw g.M fun st a b => cmpD st op a b) (rD X.fw g.M fun st a b => cmpD st op2 a b) (tE g X a) (tE g X b) (tE g X d) σ H Q := by
    obtain ⟨l, ρ, env, st, rs, re, h⟩ := h
    simp only [evE] at h
    refine tR.bind rs re h fun d1 st1 v ρ1 H1 s1 rs1 re1 r1 h1 => ?_
    refine tR.bind rs1 re1 h1 fun d2 st2 v2 ρ2 H2 s2 rs2 re2 r2 h2 => ?_
    refine ⟨_, ρ2, st2, d1, d2, rs2, Rep.step s2 _ _ r1, r2, ?_⟩
    cases e : cmpD st2 op d1 d2 with
    | er c w s' => exact absurd e (cmpD_ne c w s')
    | no =>
      rw [e] at h2
      exact h2.elim
    | ok d3 st3 =>
      obtain ⟨k, rfl, rfl⟩ := cmpD_bl e
      rw [e] at h2
      show Out _ _ _ _ _ _ (cmpD st3 op d1 d2) _
      rw [e]
      intro v3 ρ3 H3 s3 rs3 r3
      cases rep_bl r3
      refine ⟨k, rfl, ?_⟩
      cases k with
      | false =>
        rw [if_neg Bool.false_ne_true]
        exact Out.val (Out.step s3 h2) rs3 mk_bl
      | true =>
        rw [if_pos rfl]
        refine tR.bind rs3 (RepE.step s3 _ _ re2) (Out.step s3 h2) fun d4 st4 v4 ρ4 H4 s4 rs4 re4 r4 h4 => ?_
        exact ⟨_, ρ4, st4, d2, d4, rs4, Rep.step (s3.trans s4) _ _ r2, r4, Out.noEr cmpD_ne h4⟩
theorem s_chn {op op2 : Cop} (hu : X.A.units + 66 < cLine) (hm : lastMarks [copOf op, copOf op2] [y, z] = false) (ha : PE X x (tE g X a)) (hb : PE X y (tE g X b)) (hd : PE X z (tE g X d)) : PE X (.Compare x [copOf op, copOf op2] [y, z] pos) (tE g X (.chn op op2 a b d)) :=
  (pe_chain (cmp_ok hu g.M op) (cmp_ok hu g.M op2) ha hb hd hm).mono fun σ H Q h => m_chn h
theorem rep_isN {K : KZ} {d : D} {v : V} (h : Rep K ρ H d v) : isNon d = decide (v = V.non) := by
  cases d with
  | no => exact h.elim
  | non => cases rep_non h; rfl
  | bl _ => cases rep_bl h; rfl
  | int _ => cases rep_int h; rfl
  | str _ => cases rep_str h; rfl
  | tup _ => obtain ⟨a, vs, rfl, _⟩ := rep_tup h; rfl
  | lst _ => obtain ⟨a, vs, rfl, _⟩ := rep_lst h; rfl
  | set _ => exact h.elim
  | scr _ => obtain ⟨a, vs, rfl, _⟩ := rep_scr h; rfl
  | dic _ _ =>
    simp only [Rep] at h
    obtain ⟨a, xs, us, rfl, _⟩ := h
    rfl
  | ref _ => obtain ⟨a, rfl, _⟩ := rep_ref h; rfl
  | lam _ _ =>
    simp only [Rep] at h
    obtain ⟨f, c', σ, rfl, _⟩ := h
    rfl
  | fn _ => exact h.elim
  | ty _ => cases rep_ty h; rfl

theorem m_isN {Q : VK} (h : tE g X (.isN a) σ H Q) : tIsN (tE g X a) σ H Q := by
    obtain ⟨l, ρ, env, st, rs, re, h⟩ := h
    simp only [evE] at h
    refine tR.bind rs re h fun d st1 v ρ1 H1 s1 rs1 re1 r1 h1 => ?_
    rw [rep_isN r1] at h1
    exact Out.val h1 rs1 mk_bl
theorem s_isN {j : Nat} {pos' : Pos} (ha : PE X x (tE g X a)) : PE X (.Compare x [.Is] [.Constant .none j pos'] pos) (tE g X (.isN a)) :=
  (pe_cmp (pc_isN ha) (by rfl)).mono fun σ H Q h => m_isN h
theorem m_notN {Q : VK} (h : tE g X (.notN a) σ H Q) : tNotN (tE g X a) σ H Q := by
    obtain ⟨l, ρ, env, st, rs, re, h⟩ := h
    simp only [evE] at h
    refine tR.bind rs re h fun d st1 v ρ1 H1 s1 rs1 re1 r1 h1 => ?_
    rw [rep_isN r1] at h1
    exact Out.val h1 rs1 mk_bl
theorem s_notN {j : Nat} {pos' : Pos} (ha : PE X x (tE g X a)) : PE X (.Compare x [.IsNot] [.Constant .none j pos'] pos) (tE g X (.notN a)) :=
  (pe_cmp (pc_notN ha) (by rfl)).mono fun σ H Q h => m_notN h
theorem s_and {rest : List Expr} (ha : PE X x (tE g X a)) (hb : PE X (.BoolOp .And (y :: rest) pos) (tE g X b)) : PE X (.BoolOp .And (x :: y :: rest) pos) (tE g X (.and a b)) :=
  (pe_andT ha hb).mono fun σ H Q h => by
    obtain ⟨l, ρ, env, st, rs, re, h⟩ := h
    simp only [evE] at h
    refine tR.bind rs re h fun d st1 v ρ1 H1 s1 rs1 re1 r1 h1 => ?_
    split at h1
    · rename_i e
      exact ⟨true, truth_rep rs1 r1 e, by rw [if_pos rfl]; exact ⟨l, ρ1, env, st1, rs1, re1, h1⟩⟩
    · rename_i e
      exact ⟨false, truth_rep rs1 r1 e, by rw [if_neg Bool.false_ne_true]; exact Out.val h1 rs1 r1⟩
    · exact h1.elim
theorem s_or {rest : List Expr} (ha : PE X x (tE g X a)) (hb : PE X (.BoolOp .Or (y :: rest) pos) (tE g X b)) : PE X (.BoolOp .Or (x :: y :: rest) pos) (tE g X (.or a b)) :=
  (pe_orT ha hb).mono fun σ H Q h => by
    obtain ⟨l, ρ, env, st, rs, re, h⟩ := h
    simp only [evE] at h
    refine tR.bind rs re h fun d st1 v ρ1 H1 s1 rs1 re1 r1 h1 => ?_
    split at h1
    · rename_i e
      exact ⟨false, truth_rep rs1 r1 e, by rw [if_neg Bool.false_ne_true]; exact ⟨l, ρ1, env, st1, rs1, re1, h1⟩⟩
    · rename_i e
      exact ⟨true, truth_rep rs1 r1 e, by rw [if_pos rfl]; exact Out.val h1 rs1 r1⟩
    · exact h1.elim
theorem s_not (ha : PE X x (tE g X a)) : PE X (.UnaryOp .Not x pos) (tE g X (.not a)) :=
  (pe_notT ha).mono fun σ H Q h => by
    obtain ⟨l, ρ, env, st, rs, re, h⟩ := h
    simp only [evE] at h
    refine tR.bind rs re h fun d st1 v ρ1 H1 s1 rs1 re1 r1 h1 => ?_
    split at h1
    · rename_i k e
      exact ⟨k, truth_rep rs1 r1 e, Out.val h1 rs1 mk_bl⟩
    · exact h1.elim
variable {t u : T}
theorem s_ite (ht : PT X z (tT g X t)) (ha : PE X x (tE g X a)) (hb : PE X y (tE g X b)) : PE X (.IfExp z x y pos) (tE g X (.ite t a b)) :=
  (pe_ifExp ht ha hb).mono fun σ H Q h => by
    obtain ⟨l, ρ, env, st, rs, re, h⟩ := h
    simp only [evE] at h
    show tR g X (fun _ _ _ b k => b = k) (evT g.c t) σ H _
    refine tR.bind rs re h fun d st1 v ρ1 H1 s1 rs1 re1 r1 h1 => ?_
    subst r1
    cases d with
    | true => exact ⟨l, ρ1, env, st1, rs1, re1, h1⟩
    | false => exact ⟨l, ρ1, env, st1, rs1, re1, h1⟩
theorem s_ix (hu : X.A.units + 66 < cLine) (hs : PlainIx y) (ha : PE X x (tE g X a)) (hb : PE X y (tE g X b)) : PE X (.Subscript x y pos) (tE g X (.ix a b)) :=
  (pe_ix (ix_ok hu g.M) ha hb hs).mono fun σ H Q h => by
    obtain ⟨l, ρ, env, st, rs, re, h⟩ := h
    simp only [evE] at h
    refine tR.bind rs re h fun d st1 v ρ1 H1 s1 rs1 re1 r1 h1 => ?_
    refine tR.bind rs1 re1 h1 fun d2 st2 v2 ρ2 H2 s2 rs2 re2 r2 h2 => ?_
    exact ⟨_, ρ2, st2, d, d2, rs2, Rep.step s2 _ _ r1, r2, Out.noEr ixD_ne h2⟩
/-! ### slices -/
def evO (c : Cx) (e : E) (env : List D) (st : Sto) : Rz (Option Int) := (evE c e env st).bind fun d st => Rz.of (bnd d) st
/-- a slice's part -/
def tO (g : Gc) (X : L2.Cx) (e : E) : TO := fun σ H Q => tR g X (fun _ _ _ o o' => o' = o) (evO g.c e) σ H Q
theorem o_none : PO X none (tO g X (.con .no)) := ⟨fun pins s σ H Q I h => po_none.run pins s σ H Q I (by
  obtain ⟨l, ρ, env, st, rs, re, h⟩ := h
  simp only [evO, evE, Rz.bind, bnd, Rz.of] at h
  exact Out.val h rs rfl)⟩
theorem o_some (ha : PE X x (tE g X a)) : PO X (some x) (tO g X a) := ⟨fun pins s σ H Q I h => (po_some ha).run pins s σ H Q I (by
  obtain ⟨l, ρ, env, st, rs, re, h⟩ := h
  show tR g X Rep (evE g.c a) σ H _
  refine tR.bind rs re h fun d st1 v ρ1 H1 s1 rs1 re1 r1 h1 => ?_
  unfold bnd at h1
  split at h1
  · exact r1.elim
  · cases rep_int r1
    exact ⟨_, rfl, Out.val h1 rs1 rfl⟩
  · exact h1.elim)⟩
theorem s_sl {lo hi : Option Expr} {p2 : Pos} (ha : PE X x (tE g X a)) (hl : PO X lo (tO g X b)) (hh : PO X hi (tO g X d)) : PE X (.Subscript x (.Slice lo hi none p2) pos) (tE g X (.sl a b d)) :=
  (pe_slice (sl_ok g.M) ha hl hh).mono fun σ H Q h => by
    obtain ⟨l, ρ, env, st, rs, re, h⟩ := h
    simp only [evE] at h
    refine tR.bind rs re h fun d1 st1 v ρ1 H1 s1 rs1 re1 r1 h1 => ?_
    refine tR.bind (f := evO g.c b) rs1 re1 h1 fun o1 st2 o1' ρ2 H2 s2 rs2 re2 r2 h2 => ?_
    refine tR.bind (f := evO g.c d) rs2 re2 h2 fun o2 st3 o2' ρ3 H3 s3 rs3 re3 r3 h3 => ?_
    subst r2 r3
    exact ⟨_, ρ3, st3, d1, rs3, Rep.step (s2.trans s3) _ _ r1, Out.noEr slD_ne h3⟩

/-! ### tests -/
def plainT : Expr → Bool
  | .UnaryOp .Not _ _ => false
  | .BoolOp _ _ _ => false
  | .IfExp _ _ _ _ => false
  | .Compare _ _ _ _ => false
  | _ => true
theorem plainT_ok {e : Expr} (h : plainT e = true) (env : Env) (whole : Sem Value) : isTrue e env whole = (do let v ← whole; standAt e.pos; holding [v] (truthy v)) := by
  cases e with
  | UnaryOp op _ _ => cases op <;> first | rfl | cases h
  | BoolOp => cases h
  | IfExp => cases h
  | Compare => cases h
  | _ => rfl
theorem st_of (hp : plainT x = true) (ha : PE X x (tE g X a)) : PT X x (tT g X (.of a)) :=
  (pt_truth ha (fun w => plainT_ok hp _ w)).mono fun σ H Q h => by
    obtain ⟨l, ρ, env, st, rs, re, h⟩ := h
    simp only [evT] at h
    show tR g X Rep (evE g.c a) σ H _
    refine tR.bind rs re h fun d st1 v ρ1 H1 s1 rs1 re1 r1 h1 => ?_
    split at h1
    · rename_i k e
      exact ⟨k, truth_rep rs1 r1 e, Out.val h1 rs1 rfl⟩
    · exact h1.elim
/-- only bools come -/
def IsB (c : Cx) (a : E) : Prop := ∀ env st d s', evE c a env st = .ok d s' → ∃ k, d = .bl k
theorem bind_ok {x : Rz α} {f : α → Sto → Rz β} {b : β} {s' : Sto} (h : x.bind f = .ok b s') : ∃ a s1, x = .ok a s1 ∧ f a s1 = .ok b s' := by
  cases x with
  | ok a s1 => exact ⟨a, s1, rfl, h⟩
  | er _ _ _ => cases h
  | no => cases h
theorem isB_cmp {c : Cx} {op : Cop} : IsB c (.cmp op a b) := fun env st d s' h => by
  simp only [evE] at h
  obtain ⟨x, s1, _, h⟩ := bind_ok h
  obtain ⟨y, s2, _, h⟩ := bind_ok h
  obtain ⟨k, e, _⟩ := cmpD_bl h
  exact ⟨k, e⟩
theorem isB_chn {c : Cx} {op op2 : Cop} {e : E} : IsB c (.chn op op2 a b e) := fun env st d s' h => by
  simp only [evE] at h
  obtain ⟨x, s1, _, h⟩ := bind_ok h
  obtain ⟨y, s2, _, h⟩ := bind_ok h
  obtain ⟨z, s3, _, h⟩ := bind_ok h
  split at h
  · obtain ⟨u, s4, _, h⟩ := bind_ok h
    obtain ⟨k, e, _⟩ := cmpD_bl h
    exact ⟨k, e⟩
  · cases h
    exact ⟨_, rfl⟩
  · cases h
theorem isB_isN {c : Cx} : IsB c (.isN a) := fun env st d s' h => by
  simp only [evE] at h
  obtain ⟨x, s1, _, h⟩ := bind_ok h
  cases h
  exact ⟨_, rfl⟩
theorem isB_notN {c : Cx} : IsB c (.notN a) := fun env st d s' h => by
  simp only [evE] at h
  obtain ⟨x, s1, _, h⟩ := bind_ok h
  cases h
  exact ⟨_, rfl⟩
theorem t_test {t : TE} (hb : IsB g.c a) (m : ∀ σ H Q, tE g X a σ H Q → t σ H Q) {Q : Bool → Hp → Prop} (h : tT g X (.of a) σ H Q) : tTest t σ H Q := by
  refine m _ _ _ ?_
  obtain ⟨l, ρ, env, st, rs, re, h⟩ := h
  simp only [evT] at h
  refine tR.bindE rs re h fun d st1 v ρ1 H1 e s1 rs1 re1 r1 h1 => ?_
  obtain ⟨k, rfl⟩ := hb _ _ _ _ e
  cases rep_bl r1
  exact ⟨k, rfl, Out.val h1 rs1 rfl⟩
theorem st_cmp {op : Cop} (hu : X.A.units + 66 < cLine) (hm : behindInMarks (copOf op) y = false) (ha : PE X x (tE g X a)) (hb : PE X y (tE g X b)) : PT X (.Compare x [copOf op] [y] pos) (tT g X (.of (.cmp op a b))) :=
  (pt_cmpR (cmp_ok hu g.M op) ha hb hm).mono fun σ H Q h => t_test isB_cmp (fun _ _ _ h => m_cmp h) h
theorem st_chn {op op2 : Cop} (hu : X.A.units + 66 < cLine) (hm : lastMarks [copOf op, copOf op2] [y, z] = false) (ha : PE X x (tE g X a)) (hb : PE X y (tE g X b)) (hd : PE X z (tE g X d)) : PT X (.Compare x [copOf op, copOf op2] [y, z] pos) (tT g X (.of (.chn op op2 a b d))) :=
  (pt_chain (cmp_ok hu g.M op) (cmp_ok hu g.M op2) ha hb hd hm).mono fun σ H Q h => t_test isB_chn (fun _ _ _ h => m_chn h) h
theorem st_isN {j : Nat} {pos' : Pos} (ha : PE X x (tE g X a)) : PT X (.Compare x [.Is] [.Constant .none j pos'] pos) (tT g X (.of (.isN a))) :=
  (pt_cmp (pc_isN ha) (by rfl)).mono fun σ H Q h => t_test isB_isN (fun _ _ _ h => m_isN h) h
theorem st_notN {j : Nat} {pos' : Pos} (ha : PE X x (tE g X a)) : PT X (.Compare x [.IsNot] [.Constant .none j pos'] pos) (tT g X (.of (.notN a))) :=
  (pt_cmp (pc_notN ha) (by rfl)).mono fun σ H Q h => t_test isB_notN (fun _ _ _ h => m_notN h) h
theorem pw_of {op : BoolOp} {vs : List Expr} {t : TT} (h : PT X (.BoolOp op vs pos) t) : PW X (.BoolOp op vs pos) t := ⟨fun w pins s σ H Q I q => h.run pins s σ H Q I q⟩
theorem st_and {rest : List Expr} (ha : PT X x (tT g X t)) (hb : PW X (.BoolOp .And (y :: rest) pos) (tT g X u)) : PT X (.BoolOp .And (x :: y :: rest) pos) (tT g X (.and t u)) :=
  (pw_and ha hb).pt.mono fun σ H Q h => by
    obtain ⟨l, ρ, env, st, rs, re, h⟩ := h
    simp only [evT] at h
    show tR g X (fun _ _ _ b k => b = k) (evT g.c t) σ H _
    refine tR.bind rs re h fun d st1 v ρ1 H1 s1 rs1 re1 r1 h1 => ?_
    subst r1
    cases d with
    | true => exact ⟨l, ρ1, env, st1, rs1, re1, h1⟩
    | false => exact Out.val h1 rs1 rfl
theorem st_or {rest : List Expr} (ha : PT X x (tT g X t)) (hb : PW X (.BoolOp .Or (y :: rest) pos) (tT g X u)) : PT X (.BoolOp .Or (x :: y :: rest) pos) (tT g X (.or t u)) :=
  (pw_or ha hb).pt.mono fun σ H Q h => by
    obtain ⟨l, ρ, env, st, rs, re, h⟩ := h
    simp only [evT] at h
    show tR g X (fun _ _ _ b k => b = k) (evT g.c t) σ H _
    refine tR.bind rs re h fun d st1 v ρ1 H1 s1 rs1 re1 r1 h1 => ?_
    subst r1
    cases d with
    | true => exact Out.val h1 rs1 rfl
    | false => exact ⟨l, ρ1, env, st1, rs1, re1, h1⟩
theorem st_not (ha : PT X x (tT g X t)) : PT X (.UnaryOp .Not x pos) (tT g X (.not t)) :=
  (pt_not ha).mono fun σ H Q h => by
    obtain ⟨l, ρ, env, st, rs, re, h⟩ := h
    simp only [evT] at h
    show tR g X (fun _ _ _ b k => b = k) (evT g.c t) σ H _
    refine tR.bind rs re h fun d st1 v ρ1 H1 s1 rs1 re1 r1 h1 => ?_
    subst r1
    exact Out.val h1 rs1 rfl

/-! ### argument lists, tuples, fresh lists -/
variable {es : Es} {xs : List Expr}
theorem sa_nil : PA X [] (tEs g X .nil) := pa_nil.mono fun σ H Q h => by
  obtain ⟨l, ρ, env, st, rs, re, h⟩ := h
  simp only [evEs] at h
  exact Out.val h rs Reps.nil
theorem sa_cons (hs : starEach (x :: xs) X.env = (false, eval x X.env) :: starEach xs X.env) (ha : PE X x (tE g X a)) (hb : PA X xs (tEs g X es)) : PA X (x :: xs) (tEs g X (.cons a es)) :=
  (pa_cons ha hb hs).mono fun σ H Q h => by
    obtain ⟨l, ρ, env, st, rs, re, h⟩ := h
    simp only [evEs] at h
    refine tR.bind rs re h fun d st1 v ρ1 H1 s1 rs1 re1 r1 h1 => ?_
    refine tR.bind rs1 re1 h1 fun d2 st2 v2 ρ2 H2 s2 rs2 re2 r2 h2 => ?_
    exact Out.val h2 rs2 (Reps.cons (Rep.step s2 _ _ r1) r2)
theorem s_tup {k : Nat} (ha : PA X xs (tEs g X es)) : PE X (.Tuple xs k pos) (tE g X (.tup es)) :=
  (pe_tup ha).mono fun σ H Q h => by
    obtain ⟨l, ρ, env, st, rs, re, h⟩ := h
    simp only [evE] at h
    refine tR.bind rs re h fun d st1 v ρ1 H1 s1 rs1 re1 r1 h1 => ?_
    cases e : fit d.length with
    | false =>
      rw [e] at h1
      exact h1.elim
    | true =>
      rw [e] at h1
      have hz : v.length ≤ sizeLine := by
        rw [r1.length]
        exact fit_le e
      exact ⟨hz, fun p hp => h1 _ ρ1 _ (Step.new hp) (rs1.new hp) (Rep.tupNew rs1 hp hz r1)⟩
theorem sl_dis (ha : PA X xs (tEs g X es)) : PE X (.List xs pos) (tL g X (.dis es)) :=
  (pe_lst ha).mono fun σ H Q h => by
    obtain ⟨l, ρ, env, st, rs, re, h⟩ := h
    simp only [evL] at h
    refine tR.bind rs re h fun d st1 v ρ1 H1 s1 rs1 re1 r1 h1 => ?_
    cases e : fit d.length with
    | false =>
      rw [e] at h1
      exact h1.elim
    | true =>
      rw [e] at h1
      have hz : v.length ≤ sizeLine := by
        rw [r1.length]
        exact fit_le e
      exact ⟨hz, Out.val h1 rs1 ⟨r1, hz⟩⟩
variable {L' : L}
theorem m_lis {Q : VK} (h : tE g X (.lis L') σ H Q) : tL g X L' σ H Q := by
  obtain ⟨l, ρ, env, st, rs, re, h⟩ := h
  simp only [evE] at h
  refine tR.bind rs re h fun d st1 v ρ1 H1 s1 rs1 re1 r1 h1 => ?_
  exact fun p hp => h1 _ ρ1 _ (Step.new hp) (rs1.new hp) (Rep.lstNew rs1 hp r1.2 r1.1)
theorem s_lis (ha : PE X x (tL g X L')) : PE X x (tE g X (.lis L')) := ha.mono fun σ H Q h => m_lis h
theorem m_new {Q : VK} (h : tE g X (.new L') σ H Q) : tL g X L' σ H Q := by
  obtain ⟨l, ρ, env, st, rs, re, h⟩ := h
  simp only [evE] at h
  refine tR.bind rs re h fun d st1 v ρ1 H1 s1 rs1 re1 r1 h1 => ?_
  intro p hp
  refine h1 _ (ρ1 ++ [p]) _ (Step.cell hp) (rs1.cellNew hp r1.2 r1.1) ?_
  simp only [Rep]
  exact ⟨p, rfl, by rw [← rs1.len, List.getElem?_append_right (Nat.le_refl _)]; simp⟩
theorem s_new (ha : PE X x (tL g X L')) : PE X x (tE g X (.new L')) := ha.mono fun σ H Q h => m_new h
end
end Ev

end
section
set_option Elab.async false
set_option linter.all false
set_option maxRecDepth 100000
set_option autoImplicit false
set_option maxHeartbeats 1000000
/-! EvH: calls of built-in functions, of defs, of methods; what makes fresh lists. -/
namespace Ev
open PySem L2
section
variable {X : L2.Cx} {g : Gc} {σ : L2.St} {H H1 : Hp} {ρ ρ1 : List Addr} {st : Sto} {env : List D} {l : List Addr} {a b d : E} {es : Es} {x y z : Expr} {xs : List Expr} {p pos apos : Pos}
/-! ### built-in functions by name -/
def biNm : Bi → Str
  | .len => "len" | .list => "list" | .tuple => "tuple" | .int => "int" | .bool => "bool" | .str => "str"
  | .max => "max" | .min => "min" | .sum => "sum" | .any => "any" | .all => "all" | .sorted => "sorted"
  | .isinstance => "isinstance" | .abs => "abs" | .set => "set" | .dict => "dict" | .ord => "ord" | .chr => "chr"
theorem biNm_boot (b : Bi) : bootBuiltins (biNm b) = some (biVal b) := by cases b <;> kernel_rfl
theorem biNm_n (b : Bi) : biNm b ≠ "__name__" := by cases b <;> decide
theorem biNm_d (b : Bi) : (biNm b == ("__debug__" : Str)) = false := by cases b <;> decide
/-- no star among the arguments -/
def noStar : List Expr → Bool
  | [] => true
  | .Starred _ _ :: _ => false
  | _ :: r => noStar r
theorem noStar_cons {e : Expr} {r : List Expr} (h : noStar (e :: r) = true) (env : Env) : starEach (e :: r) env = (false, eval e env) :: starEach r env ∧ noStar r = true := by
  cases e <;> first | (cases h; done) | exact ⟨rfl, h⟩
theorem noStar_plain {pos : Pos} : ∀ {r : List Expr} (env : Env), noStar r = true → (backTo pos (starEach r env)).any (·.1) = false
  | [], _, _ => rfl
  | e :: r, env, h => by
    obtain ⟨h1, h2⟩ := noStar_cons h env
    rw [h1]
    have ih := noStar_plain (pos := pos) env h2
    simp only [backTo, List.map_cons, List.any_cons, Bool.false_or] at ih ⊢
    exact ih
theorem m_args {f : Sto → List D → Rz D} {Q : VK} {Rl2 : List V → Hp → Prop} (rs : RelSt (g.k X l) ρ H g.M st) (re : RepE (g.k X l) ρ H env σ)
    (h : Out (g.k X l) g.M (Rep (g.k X l)) (ErX g (g.k X l)) ρ H ((evEs g.c es env st).bind fun ds st => f st ds) Q)
    (k : ∀ ds st1 vs ρ1 H1, Step ρ H ρ1 H1 → RelSt (g.k X l) ρ1 H1 g.M st1 → Reps (g.k X l) ρ1 H1 ds vs → Out (g.k X l) g.M (Rep (g.k X l)) (ErX g (g.k X l)) ρ1 H1 (f st1 ds) Q → Rl2 vs H1) : tEs g X es σ H Rl2 :=
  tR.bind rs re h fun d st1 v ρ1 H1 s1 rs1 re1 r1 h1 => k d st1 v ρ1 H1 s1 rs1 r1 h1
theorem s_bi {bi : Bi} (hc : X.calm = true) (hu : X.A.units + 66 < cLine) (hb : biYes bi = true) (hg : Gl X (biNm bi)) (hm : X.mg (biNm bi) = none) (hs : noStar (x :: xs) = true) (ha : PA X (x :: xs) (tEs g X es)) : PE X (.Call (.Name (biNm bi) p) (x :: xs) [] pos) (tE g X (.bi bi es)) := by
  have m : ∀ σ H Q, tE g X (.bi bi es) σ H Q → tCB (rDs X.fw g.M fun st ds => biD st bi ds) (tEs g X es) σ H Q := fun σ H Q h => by
    obtain ⟨l, ρ, env, st, rs, re, h⟩ := h
    simp only [evE] at h
    exact m_args rs re h fun ds st1 vs ρ1 H1 s1 rs1 r1 h1 => ⟨_, ρ1, st1, ds, rs1, r1, Out.noEr biD_ne h1⟩
  obtain ⟨h1, h2⟩ := noStar_cons hs X.env
  have R := bi_ok hc hu g.M bi hb
  have bo := biNm_boot bi
  cases e : biVal bi with
  | builtin id =>
    rw [e] at R bo
    exact (pe_callB R hg hm bo ha (biNm_n bi) (biNm_d bi) h1 (noStar_plain _ h2)).mono m
  | type T =>
    rw [e] at R bo
    exact (pe_callTy R hg hm bo ha (biNm_n bi) (biNm_d bi) h1 (noStar_plain _ h2)).mono m
  | _ => cases bi <;> cases e

/-! ### len(set(xs)) -/
theorem nodup_len {α : Type} [DecidableEq α] : ∀ (l m : List α), l.Nodup → (∀ x ∈ l, x ∈ m) → l.length ≤ m.length
  | [], _, _, _ => Nat.zero_le _
  | x :: r, m, h, s => by
    obtain ⟨h1, h2⟩ := List.nodup_cons.mp h
    have hx := s x (List.mem_cons_self ..)
    have ih := nodup_len r (m.erase x) h2 fun y hy => (List.mem_erase_of_ne (fun e : y = x => h1 (by rw [← e]; exact hy))).mpr (s y (List.mem_cons_of_mem _ hy))
    have e := List.length_erase_of_mem hx
    have p := List.length_pos_of_mem hx
    simp only [List.length_cons]
    omega
theorem firsts_from {α : Type} [DecidableEq α] : ∀ (l a : List α), a.Nodup → (l.foldl (fun a x => if x ∈ a then a else a ++ [x]) a).Nodup ∧ ∀ y, y ∈ l.foldl (fun a x => if x ∈ a then a else a ++ [x]) a ↔ y ∈ a ∨ y ∈ l
  | [], a, h => ⟨h, fun y => by simp⟩
  | x :: r, a, h => by
    simp only [List.foldl_cons]
    by_cases c : x ∈ a
    · rw [if_pos c]
      obtain ⟨i1, i2⟩ := firsts_from r a h
      refine ⟨i1, fun y => (i2 y).trans ⟨fun q => q.elim .inl fun q => .inr (List.mem_cons_of_mem _ q), fun q => q.elim .inl fun q => ?_⟩⟩
      rcases List.mem_cons.mp q with rfl | q
      · exact .inl c
      · exact .inr q
    · rw [if_neg c]
      have nd : (a ++ [x]).Nodup := by
        rw [List.nodup_append]
        exact ⟨h, by simp, fun p hp q hq e => c (by
          rw [List.mem_singleton.mp hq] at e
          exact e ▸ hp)⟩
      obtain ⟨i1, i2⟩ := firsts_from r (a ++ [x]) nd
      refine ⟨i1, fun y => (i2 y).trans ?_⟩
      simp only [List.mem_append, List.mem_singleton, List.mem_cons, or_assoc, List.not_mem_nil, or_false]
theorem firsts_nodup {α : Type} [DecidableEq α] (l : List α) : (firsts l).Nodup := (firsts_from l [] List.nodup_nil).1
theorem mem_firsts {α : Type} [DecidableEq α] (l : List α) (y : α) : y ∈ firsts l ↔ y ∈ l := ((firsts_from l [] List.nodup_nil).2 y).trans (by simp)
theorem firsts_len {α : Type} [DecidableEq α] {l m : List α} (h : l.Nodup) (e : ∀ y, y ∈ l ↔ y ∈ m) : l.length = (firsts m).length :=
  Nat.le_antisymm (nodup_len _ _ h fun x hx => (mem_firsts m x).mpr ((e x).mp hx)) (nodup_len _ _ (firsts_nodup m) fun x hx => (e x).mpr ((mem_firsts m x).mp hx))
theorem firsts_oss (ns : List Int) : PySem.W.ossOf ns = firsts ns := by
  unfold PySem.W.ossOf firsts
  congr 1
  funext a x
  exact PySem.W.oss_step a x
def tLenSet (K : PySem.W.Frag) (ta : TE) : TE := fun σ H Q => ta σ H fun x H1 => ∃ l, x = .ref l ∧ ((∃ ns : List Int, SqL K H1 l (ns.map V.int) ∧ ns.length ≤ 4000 ∧ Q (.int ((firsts ns).length : Nat)) H1) ∨
  (∃ ks : List (Addr × List Int), SqL K H1 l (ks.map fun p => V.ref p.1) ∧ (∀ p ∈ ks, SqT K H1 p.1 (p.2.map V.int)) ∧ ks.length < 64 ∧ Q (.int ((firsts (ks.map (·.2))).length : Nat)) H1))
theorem pe_lenSet {X : L2.Cx} {a : Expr} {ta : TE} {p p2 q pos : Pos} (hc : X.calm = true) (hu : X.A.units + 66 < cLine) (hg : Gl X "len") (hm : X.mg "len" = none) (hg2 : Gl X "set") (hm2 : X.mg "set" = none) (ha : PE X a ta)
    (na : starEach [a] X.env = (false, eval a X.env) :: starEach [] X.env) : PE X (.Call (.Name "len" p) [.Call (.Name "set" p2) [a] [] q] [] pos) (tLenSet X.K ta) := by
  refine ⟨fun pins s σ H Q I h => ?_⟩
  refine PyProof.Rows.Call_ (ld_blt I hg hm PySem.boot_len ?_)
  refine PyProof.Rows.callWith_builtin1 (PyProof.Rows.args_cons ?_ rfl) rfl rfl
  refine PyProof.Rows.Call_ (ld_blt I hg2 hm2 PyProof.Rows.boot_set ?_)
  refine PyProof.Rows.callWith_type1 (PyProof.Rows.args_cons (thn (ha.run pins s σ H _ I h) fun v s1 ⟨x, H1, I1, r1, q1⟩ => PyProof.Rows.args_nil ?_) na) na rfl
  obtain ⟨l, rfl, q1⟩ := q1
  cases r1
  rcases q1 with ⟨ns, hq, hl, q1⟩ | ⟨ks, hq, hk, hf, q1⟩
  · obtain ⟨its, r, pl, hz⟩ := I1.list hq
    have hlen : its.toArray.size = ns.length := by rw [List.size_toArray, ← r.length, List.length_map]
    refine call_set_list (I1.ok.hd hc) pl.isList (ns := ns) (by simpa using r.ints) (by rw [hlen]; unfold scanBound; omega) fun h' tk hS hk => ?_
    refine PyProof.Rows.args_nil ?_
    rw [hlen, PySem.W.oss_met, firsts_oss] at hS
    obtain ⟨o, es, ep, t, ho, hex, hd, _, _, _, hf, hn⟩ := hS
    have I2 : Inv X pins σ H1 { s1 with heap := h', toks := tk } := I1.kept fun b o e => hk b o (Heap.lt_size e) e
    have hle : (firsts ns).length ≤ 4000 := by
      rw [← firsts_oss]
      exact Nat.le_trans (PySem.W.oss_len ns) hl
    exact call_len_set ho hex hd hf (by rw [hn] <;> omega) ⟨.int ((firsts ns).length : Nat), H1, I2.tok _, ⟨_, by rw [hn]⟩, q1⟩
  · obtain ⟨its, rv, pl, hz⟩ := I1.list hq
    refine call_set_tups (P := X.prog) (w := X.w) ks (I1.ok.hd hc) pl.isList (by simpa using refs_of_vals rv) (fun p hp => I1.isT (hk p hp)) hf (by omega) fun h' tk L es ep t R g k => ?_
    refine PyProof.Rows.args_nil ?_
    obtain ⟨o, ho, hex, hd⟩ := R.ob
    have I2 : Inv X pins σ H1 { s1 with heap := h', toks := tk } := I1.kept k
    have hsz := SetTR.size (s := { s1 with heap := h', toks := tk }) R
    have hlen : L.length = (firsts (ks.map (·.2))).length := by
      rw [← firsts_len R.nd (m := ks.map (·.2)), List.length_map]
      intro y
      constructor
      · intro hy
        obtain ⟨p, hp, rfl⟩ := List.mem_map.mp hy
        exact List.mem_map.mpr ⟨p, List.mem_of_mem_take (g.sub p hp), rfl⟩
      · intro hy
        obtain ⟨p, hp, rfl⟩ := List.mem_map.mp hy
        exact g.all p (by rw [List.take_length]; exact hp)
    have := R.few
    refine call_len_set ho hex hd (SetTR.fits (s := { s1 with heap := h', toks := tk }) R) (by omega) ⟨.int ((firsts (ks.map (·.2))).length : Nat), H1, I2.tok _, ⟨_, by rw [hsz, hlen]⟩, q1⟩
theorem rep_tups {K : KZ} {ρ : List Addr} {H : Hp} : ∀ {ds : List D} {kss : List (List Int)} {vs : List V}, tupsD ds = some kss → Reps K ρ H ds vs → ∃ ks : List (Addr × List Int), vs = ks.map (fun p => V.ref p.1) ∧ (∀ p ∈ ks, SqT K.K H p.1 (p.2.map V.int)) ∧ ks.map (·.2) = kss
  | [], kss, vs, e, r => by
    cases e
    simp only [Reps] at r
    subst r
    exact ⟨[], rfl, by simp, rfl⟩
  | d :: r, kss, vs, e, h => by
    unfold tupsD at e
    split at e
    · rename_i heq
      cases heq
    · rename_i es r' heq
      cases heq
      split at e
      · rename_i n ns e1 e2
        cases e
        simp only [Reps] at h
        obtain ⟨v, w, rfl, h1, h2⟩ := h
        obtain ⟨ks, rfl, i1, i2⟩ := rep_tups e2 h2
        obtain ⟨p, xs, rfl, g1, g2, g3⟩ := rep_tup h1
        rw [rep_ints e1 g3] at g1
        refine ⟨(p, n) :: ks, rfl, fun z hz => ?_, by simp [i2]⟩
        rcases List.mem_cons.mp hz with rfl | hz
        · exact g1.sq
        · exact i1 z hz
      · cases e
    · cases e
theorem s_lenSet {a : E} {y : Expr} {p2 q : Pos} (hc : X.calm = true) (hu : X.A.units + 66 < cLine) (hg : Gl X "len") (hm : X.mg "len" = none) (hg2 : Gl X "set") (hm2 : X.mg "set" = none) (hs : noStar [y] = true) (ha : PE X y (tE g X a)) : PE X (.Call (.Name "len" p) [.Call (.Name "set" p2) [y] [] q] [] pos) (tE g X (.lenSet a)) :=
  (pe_lenSet hc hu hg hm hg2 hm2 ha (noStar_cons hs X.env).1).mono fun σ H Q h => by
    obtain ⟨l, ρ, env, st, rs, re, h⟩ := h
    simp only [evE] at h
    refine tR.bind rs re h fun d st1 v ρ1 H1 s1 rs1 re1 r1 h1 => ?_
    unfold lenSetD at h1
    split at h1
    · rename_i ds e
      obtain ⟨b, vs, rfl, g1, g2, g3⟩ := lst_of rs1 r1 e
      refine ⟨b, rfl, ?_⟩
      split at h1
      · rename_i ns e1
        rw [rep_ints e1 g3] at g1
        cases c : decide (ns.length ≤ 4000) with
        | false =>
          rw [c] at h1
          exact h1.elim
        | true =>
          rw [c] at h1
          exact .inl ⟨ns, .of g1, of_decide_eq_true c, Out.val h1 rs1 mk_int⟩
      · split at h1
        · rename_i kss e1
          obtain ⟨ks, rfl, i1, rfl⟩ := rep_tups e1 g3
          rw [List.length_map] at h1
          cases c : decide (ks.length < 64) with
          | false =>
            rw [c] at h1
            exact h1.elim
          | true =>
            rw [c] at h1
            exact .inr ⟨ks, .of g1, i1, of_decide_eq_true c, Out.val h1 rs1 mk_int⟩
        · exact h1.elim
    · exact h1.elim
/-! ### defs -/
/-- a call of def f by the evaluator's context -/
def rC (g : Gc) (X : L2.Cx) (f : Nat) : List V → Hp → VK → Prop := fun vs H Q => ∃ l ρ st ds, RelSt (g.k X l) ρ H g.M st ∧ Reps (g.k X l) ρ H ds vs ∧ Out (g.k X l) g.M (Rep (g.k X l)) (ErX g (g.k X l)) ρ H (g.c.call f ds st) Q
theorem m_call {f : Nat} : ∀ σ H Q, tE g X (.call f es) σ H Q → tCB (rC g X f) (tEs g X es) σ H Q := fun σ H Q h => by
  obtain ⟨l, ρ, env, st, rs, re, h⟩ := h
  simp only [evE] at h
  exact m_args (f := fun st ds => g.c.call f ds st) rs re h fun ds st1 vs ρ1 H1 s1 rs1 r1 h1 => ⟨_, ρ1, st1, ds, rs1, r1, h1⟩
theorem s_call {f : Nat} {fa : Addr} {n : Str} (hc : CallR X (.ref fa) (rC g X f)) (hg : Gl X n) (hm : X.mg n = some (.ref fa)) (hk : PySem.W.keepIn X.K (.ref fa) = true) (hs : noStar (x :: xs) = true) (hd : (n == ("__debug__" : Str)) = false) (ha : PA X (x :: xs) (tEs g X es)) :
    PE X (.Call (.Name n p) (x :: xs) [] pos) (tE g X (.call f es)) := by
  refine L2.PE.mono (t := tCB (rC g X f) (tEs g X es)) ⟨fun pins s σ H Q I h => ?_⟩ m_call
  obtain ⟨h1, h2⟩ := noStar_cons hs X.env
  refine wpAny_Call_Name_kw (ld_glob I hg hm ?_ hd)
  exact PySem.W.callWith_K (h₀ := X.base) I.ok.mod.kin hk (thn (ha.run pos pins s σ H _ I h) fun us s1 ⟨vs, H1, I1, r, q⟩ => ⟨I1.kIn, hc pins s1 σ H1 vs us Q I1 r q⟩) h1 (noStar_plain _ h2)
theorem s_call0 {f : Nat} {fa : Addr} {n : Str} (hc : CallR X (.ref fa) (rC g X f)) (hg : Gl X n) (hm : X.mg n = some (.ref fa)) (hk : PySem.W.keepIn X.K (.ref fa) = true) (hd : (n == ("__debug__" : Str)) = false) :
    PE X (.Call (.Name n p) [] [] pos) (tE g X (.call f .nil)) := by
  refine L2.PE.mono (t := tCB (rC g X f) (tEs g X .nil)) ⟨fun pins s σ H Q I h => ?_⟩ m_call
  refine wpAny_Call_Name_kw (ld_glob I hg hm ?_ hd)
  obtain ⟨l, ρ, env, st, rs, re, h⟩ := h
  simp only [evEs] at h
  exact PySem.W.callWith_K0 I.kIn hk (hc pins s σ H [] [] Q I .nil (Out.val h rs Reps.nil))

/-! ### methods -/
def rMe (g : Gc) (X : L2.Cx) (m : Me) : V → List V → Hp → VK → Prop := fun x xs H Q => ∃ l ρ st o as, RelSt (g.k X l) ρ H g.M st ∧ Rep (g.k X l) ρ H o x ∧ Reps (g.k X l) ρ H as xs ∧ Out (g.k X l) g.M (Rep (g.k X l)) (ErX g (g.k X l)) ρ H (meD g.c.n0 st m o as) Q
/-- the first cells know no younger -/
theorem RelSt.knows {K : KZ} {M : Nat → Prop} {m n : Nat} {ds : List D} (rs : RelSt K ρ H M st) (hm : M m) (hn : n < m) (e : st[n]? = some (.lst ds)) : upTos m ds = true := (rs.old m hm).2 n _ hn e
theorem upTos_app {m : Nat} {ds es : List D} (h1 : upTos m ds = true) (h2 : upTos m es = true) : upTos m (ds ++ es) = true := by
  rw [upTos_iff] at h1 h2 ⊢
  intro d hd
  rcases List.mem_append.mp hd with hd | hd
  · exact h1 d hd
  · exact h2 d hd
theorem may_upTo {n : Nat} {d : D} (h : may g.c.n0 n d = true) {m : Nat} (hm : g.M m) (hn : n < m) : d.upTo m = true := by
  have := g.le m hm
  rcases Bool.or_eq_true_iff.mp h with h | h
  · have := Nat.ble_eq.mp h
    omega
  · exact upTo_pure m d h
theorem cell_of {K : KZ} {M : Nat → Prop} {n : Nat} {v : V} {ds : List D} (rs : RelSt K ρ H M st) (r : Rep K ρ H (.ref n) v) (e : st[n]? = some (.lst ds)) : ∃ a vs, v = .ref a ∧ ρ[n]? = some a ∧ H a = some (.lst vs) ∧ vs.length ≤ sizeLine ∧ Reps K ρ H ds vs := by
  obtain ⟨a, rfl, h2⟩ := rep_ref r
  obtain ⟨a', h3, vs, h4, h5, h6⟩ := rs.cell n _ e
  rw [h2] at h3
  cases h3
  exact ⟨a, vs, rfl, h2, h4, h5, h6⟩
theorem fitB {b : Bool} {c : Rz D} {Q : VK} {K : KZ} {M : Nat → Prop} {Er : Nat → D → List Addr → Hp → Prop} (h : Out K M (Rep K) Er ρ H (bif b then c else .no) Q) : b = true ∧ Out K M (Rep K) Er ρ H c Q := by
  cases b with
  | false => exact h.elim
  | true => exact ⟨rfl, h⟩
theorem me_append : MtR X "list.append" (rMe g X .append) := by
  intro pins s σ H x xs v us Q I rx rxs h
  obtain ⟨l, ρ, st, o, as, rs, ro, ra, h⟩ := h
  match as, ra, h with
  | [], _, h => exact h.elim
  | _ :: _ :: _, _, h => exact h.elim
  | [d], ra, h =>
    simp only [meD] at h
    split at h
    · rename_i n
      split at h
      · rename_i ds e
        obtain ⟨c, h⟩ := fitB h
        obtain ⟨c1, c2⟩ := ba c
        obtain ⟨a, vs, rfl, h2, h3, h4, h5⟩ := cell_of rs ro e
        obtain ⟨y, rfl, ry⟩ := reps1 ra
        have c3 : vs.length < sizeLine := by
          rw [h5.length]
          exact of_decide_eq_true c2
        refine mt_append pins s σ H _ _ v us Q I rx rxs ⟨a, vs, y, rfl, rfl, h3, c3, ?_⟩
        exact h _ ρ _ (Step.write rs h2) (rs.write h2 (by rw [List.length_append]; exact c3) (h5.append (Reps.cons ry Reps.nil)) fun m hm hn => upTos_app (rs.knows hm hn e) (by simp only [upTos, may_upTo c1 hm hn, Bool.and_self])) mk_non
      · exact h.elim
    · exact h.elim
theorem me_extend : MtR X "list.extend" (rMe g X .extend) := by
  intro pins s σ H x xs v us Q I rx rxs h
  obtain ⟨l, ρ, st, o, as, rs, ro, ra, h⟩ := h
  match as, ra, h with
  | [], _, h => exact h.elim
  | _ :: _ :: _, _, h => exact h.elim
  | [d], ra, h =>
    simp only [meD] at h
    split at h
    · rename_i n
      split at h
      · rename_i ds e
        split at h
        · rename_i es e2
          obtain ⟨c, h⟩ := fitB h
          obtain ⟨c1, c2⟩ := ba c
          obtain ⟨a, vs, rfl, h2, h3, h4, h5⟩ := cell_of rs ro e
          obtain ⟨y, rfl, ry⟩ := reps1 ra
          obtain ⟨b, us', rfl, g1, g2, g3⟩ := lst_of rs ry e2
          have c3 : vs.length + us'.length ≤ sizeLine := by
            rw [h5.length, g3.length]
            exact fit_le c2
          refine mt_extend pins s σ H _ _ v us Q I rx rxs ⟨a, b, vs, us', rfl, rfl, h3, g1, c3, ?_⟩
          refine h _ ρ _ (Step.write rs h2) (rs.write h2 (by rw [List.length_append]; exact c3) (h5.append g3) fun m hm hn => upTos_app (rs.knows hm hn e) ?_) mk_non
          have := g.le m hm
          rcases Bool.or_eq_true_iff.mp c1 with q | q
          · have := Nat.ble_eq.mp q
            omega
          · exact upTos_pure m _ q
        · exact h.elim
      · exact h.elim
    · exact h.elim
theorem Reps.dropLast {K : KZ} {ds : List D} {vs : List V} (h : Reps K ρ H ds vs) : Reps K ρ H ds.dropLast vs.dropLast := by
  rw [List.dropLast_eq_take, List.dropLast_eq_take, h.length]
  exact h.take _
theorem upTos_sub {m : Nat} {ds es : List D} (h : upTos m ds = true) (s : ∀ d ∈ es, d ∈ ds) : upTos m es = true := by
  rw [upTos_iff] at h ⊢
  exact fun d hd => h d (s d hd)
theorem me_pop : MtR X "list.pop" (rMe g X .pop) := by
  intro pins s σ H x xs v us Q I rx rxs h
  obtain ⟨l, ρ, st, o, as, rs, ro, ra, h⟩ := h
  match as, ra, h with
  | _ :: _, _, h => exact h.elim
  | [], ra, h =>
    simp only [meD] at h
    split at h
    · rename_i n
      split at h
      · rename_i ds e
        split at h
        · rename_i d hd
          obtain ⟨a, vs, rfl, h2, h3, h4, h5⟩ := cell_of rs ro e
          obtain rfl : xs = [] := by simpa [Reps] using ra
          rw [List.getLast?_eq_getElem?] at hd
          obtain ⟨y, ey, ry⟩ := h5.get hd
          rw [← h5.length] at ey
          refine mt_pop pins s σ H _ _ v us Q I rx rxs ⟨a, vs, y, rfl, rfl, h3, ey, ?_⟩
          have sw := Step.write (o := .lst vs.dropLast) rs h2
          exact h _ ρ _ sw (rs.write h2 (by simp; omega) h5.dropLast fun m hm hn => upTos_sub (rs.knows hm hn e) fun d hd => List.dropLast_subset _ hd) (Rep.step sw _ _ ry)
        · exact h.elim
      · exact h.elim
    · exact h.elim
theorem me_bits : MtR X "int.bit_length" (rMe g X .bit_length) := by
  intro pins s σ H x xs v us Q I rx rxs h
  obtain ⟨l, ρ, st, o, as, rs, ro, ra, h⟩ := h
  match as, ra, h with
  | _ :: _, _, h => exact h.elim
  | [], ra, h =>
    simp only [meD] at h
    split at h
    · rename_i i
      obtain rfl : xs = [] := by simpa [Reps] using ra
      cases rep_int ro
      obtain ⟨t, rfl⟩ := rx
      cases rxs
      exact PyProof.Rows.call_int_bit_length ⟨.int _, H, I.tok _, ⟨_, rfl⟩, Out.val h rs mk_int⟩
    · exact h.elim

/-- the methods that are proved here -/
def meYes : Me → Bool
  | .append => true | .extend => true | .pop => true | .bit_length => true
  | _ => false
def meNm : Me → Str
  | .append => "append" | .extend => "extend" | .pop => "pop" | .bit_length => "bit_length" | .popAt => "pop" | .insert => "insert" | .index => "index" | .count => "count"
  | .get => "get" | .get2 => "get" | .add => "add" | .items => "items" | .values => "values" | .keys => "keys" | .join => "join" | .reverse => "reverse" | .update => "update" | .setdefault => "setdefault"
theorem m_me0 {m : Me} {T : String} (hT : ∀ {l ρ H st o v}, RelSt (g.k X l) ρ H g.M st → Rep (g.k X l) ρ H o v → recv st m o = true → tyV X.K T v H) : ∀ σ H Q, tE g X (.me m a .nil) σ H Q → tBM0 X.K T (rMe g X m) (tE g X a) σ H Q := fun σ H Q h => by
  obtain ⟨l, ρ, env, st, rs, re, h⟩ := h
  simp only [evE] at h
  refine tR.bind rs re h fun d st1 v ρ1 H1 s1 rs1 re1 r1 h1 => ?_
  obtain ⟨c, h1⟩ := fitB h1
  simp only [evEs] at h1
  exact ⟨hT rs1 r1 c, l, ρ1, st1, d, [], rs1, r1, Reps.nil, h1⟩
theorem m_me {m : Me} {T : String} (hT : ∀ {l ρ H st o v}, RelSt (g.k X l) ρ H g.M st → Rep (g.k X l) ρ H o v → recv st m o = true → tyV X.K T v H) : ∀ σ H Q, tE g X (.me m a es) σ H Q → tBM X.K T (rMe g X m) (tE g X a) (tEs g X es) σ H Q := fun σ H Q h => by
  obtain ⟨l, ρ, env, st, rs, re, h⟩ := h
  simp only [evE] at h
  refine tR.bind rs re h fun d st1 v ρ1 H1 s1 rs1 re1 r1 h1 => ?_
  obtain ⟨c, h1⟩ := fitB h1
  refine ⟨hT rs1 r1 c, ?_⟩
  exact m_args (f := fun st ds => meD g.c.n0 st m d ds) rs1 re1 h1 fun ds st2 vs ρ2 H2 s2 rs2 r2 h2 => ⟨l, ρ2, st2, d, ds, rs2, Rep.step s2 _ _ r1, r2, h2⟩
theorem recv_list {m : Me} (hm : ∀ st x, recv st m x = (sitL st x).isSome) {l : List Addr} {o : D} {v : V} (rs : RelSt (g.k X l) ρ H g.M st) (r : Rep (g.k X l) ρ H o v) (c : recv st m o = true) : tyV X.K "list" v H := by
  rw [hm] at c
  obtain ⟨ds, e⟩ := Option.isSome_iff_exists.mp c
  obtain ⟨a, vs, rfl, h, _⟩ := sitL_of rs r e
  exact .inl ⟨rfl, vs, h⟩
theorem s_me0 {m : Me} (hy : m = .pop ∨ m = .bit_length) (hbase : attributeBase x (meNm m) X.env (eval x X.env) = eval x X.env) (hline : (apos.endLine == pos.line) = true) (ha : PE X x (tE g X a)) : PE X (.Call (.Attribute x (meNm m) apos) [] [] pos) (tE g X (.me m a .nil)) := by
  rcases hy with rfl | rfl
  · exact (pe_bm0 PySem.F.plainAttrs_list PySem.F.slot_list_pop PySem.F.type_list_pop me_pop ha hbase hline).mono (m_me0 (recv_list fun _ _ => rfl))
  · refine (pe_bm0 PySem.F.plainAttrs_int PyProof.Rows.slot_int_bit_length PyProof.Rows.type_int_bit_length me_bits ha hbase hline).mono (m_me0 fun {l ρ H st o v} rs r c => ?_)
    unfold recv at c
    dsimp only at c
    split at c
    · cases rep_int r
      rfl
    · cases c
theorem s_me {m : Me} (hy : m = .append ∨ m = .extend) (hbase : attributeBase x (meNm m) X.env (eval x X.env) = eval x X.env) (hline : (apos.endLine == pos.line) = true) (hs : noStar [y] = true) (ha : PE X x (tE g X a)) (hb : PA X [y] (tEs g X es)) : PE X (.Call (.Attribute x (meNm m) apos) [y] [] pos) (tE g X (.me m a es)) := by
  obtain ⟨h1, h2⟩ := noStar_cons hs X.env
  have hfew : ((backTo pos (starEach [y] X.env)).all (fun x => !x.1) && (backToKw pos (keywordEach [] X.env)).all (fun x => x.1.isSome) && decide (([y] : List Expr).length + ([] : List Keyword).length + (if ([] : List Keyword).isEmpty then 0 else 1) < 30)) = true := by
    rw [h1]
    rfl
  rcases hy with rfl | rfl
  · exact (pe_bm PySem.F.plainAttrs_list PySem.F.slot_list_append PySem.F.type_list_append me_append ha hb hbase hfew hline h1 (noStar_plain _ h2)).mono (m_me (recv_list fun _ _ => rfl))
  · exact (pe_bm PySem.F.plainAttrs_list PySem.F.slot_list_extend PySem.F.type_list_extend me_extend ha hb hbase hfew hline h1 (noStar_plain _ h2)).mono (m_me (recv_list fun _ _ => rfl))
end
end Ev

end
section
set_option Elab.async false
set_option linter.all false
set_option maxRecDepth 100000
set_option autoImplicit false
set_option maxHeartbeats 1000000
/-! EvI: fresh lists, what is walked, targets, comprehensions. -/
namespace Ev
open PySem L2
section
variable {X : L2.Cx} {g : Gc} {σ : L2.St} {H H1 : Hp} {ρ ρ1 : List Addr} {st : Sto} {env : List D} {l : List Addr} {a b d : E} {es : Es} {x y z : Expr} {xs : List Expr} {p pos apos : Pos} {L1 : L}
theorem sl_of (hg : Gl X "list") (hm : X.mg "list" = none) (hs : noStar [x] = true) (ha : PE X x (tE g X a)) : PE X (.Call (.Name "list" p) [x] [] pos) (tL g X (.of a)) := by
  obtain ⟨h1, h2⟩ := noStar_cons hs X.env
  refine (pe_callTy call_list_of hg hm (biNm_boot .list) (pa_cons ha pa_nil h1) (biNm_n .list) (biNm_d .list) h1 (noStar_plain _ h2)).mono fun σ H Q h => ?_
  obtain ⟨l, ρ, env, st, rs, re, h⟩ := h
  simp only [evL] at h
  show tE g X a σ H _
  refine tR.bind rs re h fun d st1 v ρ1 H1 s1 rs1 re1 r1 h1 => ?_
  cases e : items st1 d with
  | none =>
    rw [e] at h1
    exact h1.elim
  | some ds =>
    rw [e] at h1
    obtain ⟨q, vs, rfl, h2, h3, h4⟩ := seq_of rs1 r1 e
    exact ⟨q, vs, rfl, h2, Out.val h1 rs1 ⟨h4, h3⟩⟩
theorem sl_rep (ha : PE X x (tL g X L1)) (hb : PE X y (tE g X b)) : PE X (.BinOp x .Mult y pos) (tL g X (.rep L1 b)) :=
  (pe_op op_rep ha hb).mono fun σ H Q h => by
    obtain ⟨l, ρ, env, st, rs, re, h⟩ := h
    simp only [evL] at h
    show tL g X L1 σ H _
    refine tR.bind rs re h fun ds st1 vs ρ1 H1 s1 rs1 re1 r1 h1 => ?_
    intro p hp
    have h1' := Out.step (Step.new (o := .lst vs) hp) h1
    refine tR.bind (rs1.new hp) (RepE.step (Step.new hp) _ _ re1) h1' fun k st2 v2 ρ2 H2 s2 rs2 re2 r2 h2 => ?_
    obtain ⟨_, us, e1, e2, _, e4⟩ := rep_lst (Rep.step s2 _ _ (Rep.lstNew rs1 hp r1.2 r1.1))
    cases e1
    split at h2
    · rename_i k
      cases rep_int r2
      cases c : repOk ds.length k with
      | false =>
        rw [c] at h2
        exact h2.elim
      | true =>
        rw [c] at h2
        obtain ⟨c1, c2, c3⟩ := repOk_of c
        have hl : us.length = ds.length := e4.length
        exact ⟨p, k, us, rfl, rfl, e2.2.2, by omega, by omega, by rw [hl]; exact c3, Out.val h2 rs2 ⟨e4.rep _, by rw [len_rep, hl, Nat.mul_comm]; exact c3⟩⟩
    · exact h2.elim
theorem sl_cat (ha : PE X x (tE g X a)) (hb : PE X y (tE g X b)) : PE X (.BinOp x .Add y pos) (tL g X (.cat a b)) :=
  (pe_op op_cat ha hb).mono fun σ H Q h => by
    obtain ⟨l, ρ, env, st, rs, re, h⟩ := h
    simp only [evL] at h
    show tE g X a σ H _
    refine tR.bind rs re h fun d st1 v ρ1 H1 s1 rs1 re1 r1 h1 => ?_
    refine tR.bind rs1 re1 h1 fun d2 st2 v2 ρ2 H2 s2 rs2 re2 r2 h2 => ?_
    split at h2
    · rename_i xs ys e1 e2
      cases c : fit (xs.length + ys.length) with
      | false =>
        rw [c] at h2
        exact h2.elim
      | true =>
        rw [c] at h2
        obtain ⟨p, vs, rfl, f1, f2, f3⟩ := lst_of rs2 (Rep.step s2 _ _ r1) e1
        obtain ⟨q, us, rfl, g1, g2, g3⟩ := lst_of rs2 r2 e2
        have hz : vs.length + us.length ≤ sizeLine := by
          rw [f3.length, g3.length]
          exact fit_le c
        exact ⟨p, q, vs, us, rfl, rfl, f1, g1, hz, Out.val h2 rs2 ⟨f3.append g3, by rw [List.length_append]; exact hz⟩⟩
    · exact h2.elim
theorem sl_cut {lo hi : Option Expr} {p2 : Pos} (ha : PE X x (tE g X a)) (hl : PO X lo (tO g X b)) (hh : PO X hi (tO g X d)) : PE X (.Subscript x (.Slice lo hi none p2) pos) (tL g X (.cut a b d)) :=
  (pe_slice sl_list ha hl hh).mono fun σ H Q h => by
    obtain ⟨l, ρ, env, st, rs, re, h⟩ := h
    simp only [evL] at h
    refine tR.bind rs re h fun d1 st1 v ρ1 H1 s1 rs1 re1 r1 h1 => ?_
    refine tR.bind (f := evO g.c b) rs1 re1 h1 fun o1 st2 o1' ρ2 H2 s2 rs2 re2 r2 h2 => ?_
    refine tR.bind (f := evO g.c d) rs2 re2 h2 fun o2 st3 o2' ρ3 H3 s3 rs3 re3 r3 h3 => ?_
    subst r2 r3
    split at h3
    · rename_i ds e
      obtain ⟨q, vs, rfl, f1, f2, f3⟩ := lst_of rs3 (Rep.step (s2.trans s3) _ _ r1) e
      exact ⟨q, vs, rfl, .of f1, Out.val h3 rs3 ⟨cut_rep f3 _ _, Nat.le_trans (cutV_length vs _ _) f2⟩⟩
    · exact h3.elim

/-! ### what is walked -/
def SrcAt (K : KZ) (ρ : List Addr) (H : Hp) : Src → It → Prop
  | .cell n, J => ∃ a, J = Itl K.K a ∧ ρ[n]? = some a
  | .its ds, J => (∃ a vs, J = Itl K.K a ∧ ScrAt K ρ H a vs ∧ vs.length ≤ sizeLine ∧ Reps K ρ H ds vs) ∨ (∃ a vs, J = Itt K.K a ∧ TupAt K ρ H a vs ∧ vs.length ≤ sizeLine ∧ Reps K ρ H ds vs) ∨
      (∃ (lo : Int) (n : Nat), J = Itr lo n ∧ n ≤ sizeLine ∧ ds = (List.range n).map fun i => .int (lo + (i : Nat))) ∨ (∃ x : Str, J = Its x ∧ x.length ≤ sizeLine ∧ ds = x.cps.toList.map fun k => .str ⟨#[k]⟩) ∨
      (∃ a vs es, J = Ite K.K a ∧ ScrAt K ρ H a vs ∧ vs.length ≤ sizeLine ∧ Reps K ρ H es vs ∧ ds = enuD es)
def nxt : Src → Sto → Nat → Option (Option D)
  | .its ds, _, i => some ds[i]?
  | .cell n, st, i => (match st[n]? with
    | some (.lst ds) => some ds[i]?
    | _ => none)
variable {K : KZ} {M : Nat → Prop} {s : Src} {J : It}
theorem SrcAt.step (t : Step ρ H ρ1 H1) (h : SrcAt K ρ H s J) : SrcAt K ρ1 H1 s J := by
  cases s with
  | cell n =>
    obtain ⟨a, e, h⟩ := h
    exact ⟨a, e, t.at_ h⟩
  | its ds =>
    rcases h with ⟨a, vs, e, h1, h2, h3⟩ | ⟨a, vs, e, h1, h2, h3⟩ | h | h | ⟨a, vs, es, e, h1, h2, h3, h4⟩
    · exact .inl ⟨a, vs, e, h1.step t, h2, Reps.step t _ _ h3⟩
    · exact .inr (.inl ⟨a, vs, e, h1.step t, h2, Reps.step t _ _ h3⟩)
    · exact .inr (.inr (.inl h))
    · exact .inr (.inr (.inr (.inl h)))
    · exact .inr (.inr (.inr (.inr ⟨a, vs, es, e, h1.step t, h2, Reps.step t _ _ h3, h4⟩)))
theorem lt_of_get {α : Type} {xs : List α} {i : Nat} {x : α} (h : xs[i]? = some x) : i < xs.length := (List.getElem?_eq_some_iff.mp h).1
theorem enu_get {es : List D} {i : Nat} : (enuD es)[i]? = es[i]?.map fun d => .tup [.int (i : Nat), d] := by
  unfold enuD
  rw [List.getElem?_map, List.getElem?_zipIdx]
  cases es[i]? <;> simp
/-- a turn -/
theorem SrcAt.turn (rs : RelSt K ρ H M st) (h : SrcAt K ρ H s J) (i : Nat) : (nxt s st i = some none → J.stop i H) ∧ (∀ d, nxt s st i = some (some d) → i < sizeLine ∧ J.go i H ∧ ∀ x H', J.yld i H x H' → Step ρ H ρ H' ∧ RelSt K ρ H' M st ∧ Rep K ρ H' d x) := by
  cases s with
  | cell n =>
    obtain ⟨a, rfl, h⟩ := h
    unfold nxt
    dsimp only
    split
    · rename_i ds e
      obtain ⟨a', h3, vs, h4, h5, h6⟩ := rs.cell n _ e
      rw [h] at h3
      cases h3
      refine ⟨fun q => ⟨vs, .of h4, ?_⟩, fun d q => ?_⟩
      · rw [h6.length]
        exact List.getElem?_eq_none_iff.mp (Option.some.inj q)
      · have q := Option.some.inj q
        obtain ⟨v, e1, e2⟩ := h6.get q
        refine ⟨Nat.lt_of_lt_of_le (lt_of_get e1) h5, ⟨vs, v, .of h4, e1⟩, fun x H' y => ?_⟩
        obtain ⟨rfl, y⟩ := y
        have := y vs (.of h4)
        rw [e1] at this
        cases this
        exact ⟨Step.refl, rs, e2⟩
    · exact ⟨fun q => (nomatch q), fun d q => (nomatch q)⟩
  | its ds =>
    unfold nxt
    dsimp only
    rcases h with ⟨a, vs, rfl, h1, h2, h3⟩ | ⟨a, vs, rfl, h1, h2, h3⟩ | ⟨lo, n, rfl, hn, rfl⟩ | ⟨w, rfl, hw, rfl⟩ | ⟨a, vs, es, rfl, h1, h2, h3, rfl⟩
    · refine ⟨fun q => ⟨vs, h1.sq, ?_⟩, fun d q => ?_⟩
      · rw [h3.length]
        exact List.getElem?_eq_none_iff.mp (Option.some.inj q)
      · have q := Option.some.inj q
        obtain ⟨v, e1, e2⟩ := h3.get q
        refine ⟨Nat.lt_of_lt_of_le (lt_of_get e1) h2, ⟨vs, v, h1.sq, e1⟩, fun x H' y => ?_⟩
        obtain ⟨rfl, y⟩ := y
        have := y vs h1.sq
        rw [e1] at this
        cases this
        exact ⟨Step.refl, rs, e2⟩
    · refine ⟨fun q => ⟨vs, h1.sq, ?_⟩, fun d q => ?_⟩
      · rw [h3.length]
        exact List.getElem?_eq_none_iff.mp (Option.some.inj q)
      · have q := Option.some.inj q
        obtain ⟨v, e1, e2⟩ := h3.get q
        refine ⟨Nat.lt_of_lt_of_le (lt_of_get e1) h2, ⟨vs, v, h1.sq, e1⟩, fun x H' y => ?_⟩
        obtain ⟨rfl, y⟩ := y
        have := y vs h1.sq
        rw [e1] at this
        cases this
        exact ⟨Step.refl, rs, e2⟩
    · refine ⟨fun q => ?_, fun d q => ?_⟩
      · have := List.getElem?_eq_none_iff.mp (Option.some.inj q)
        show n ≤ i
        simpa using this
      · have q := Option.some.inj q
        have hi : i < n := by simpa using lt_of_get q
        refine ⟨Nat.lt_of_lt_of_le hi hn, hi, fun x H' y => ?_⟩
        obtain ⟨rfl, rfl⟩ := y
        rw [List.getElem?_map, List.getElem?_range hi] at q
        cases q
        exact ⟨Step.refl, rs, mk_int⟩
    · refine ⟨fun q => ?_, fun d q => ?_⟩
      · have := List.getElem?_eq_none_iff.mp (Option.some.inj q)
        show w.cps.size ≤ i
        simpa using this
      · have q := Option.some.inj q
        have hi : i < w.cps.size := by simpa using lt_of_get q
        refine ⟨Nat.lt_of_lt_of_le hi (by simpa [PySem.Str.length] using hw), hi, fun x H' y => ?_⟩
        obtain ⟨rfl, c, e, rfl⟩ := y
        rw [List.getElem?_map, Array.getElem?_toList, e] at q
        cases q
        exact ⟨Step.refl, rs, mk_str⟩
    · refine ⟨fun q => ⟨vs, h1.sq, ?_⟩, fun d q => ?_⟩
      · have := List.getElem?_eq_none_iff.mp (Option.some.inj q)
        rw [h3.length]
        simpa [enuD] using this
      · have q := Option.some.inj q
        rw [enu_get] at q
        obtain ⟨d0, q0, rfl⟩ := Option.map_eq_some_iff.mp q
        obtain ⟨v, e1, e2⟩ := h3.get q0
        refine ⟨Nat.lt_of_lt_of_le (lt_of_get e1) h2, ⟨vs, v, h1.sq, e1⟩, fun x H' y => ?_⟩
        obtain ⟨T, x0, rfl, hT, rfl, y⟩ := y
        have := y vs h1.sq
        rw [e1] at this
        cases this
        exact ⟨Step.new hT, rs.new hT, Rep.tupNew rs hT (by rw [sizeLine_eq]; show 2 ≤ 16777216; decide) (Reps.cons mk_int (Reps.cons e2 Reps.nil))⟩
/-- the reading of what is walked -/
def tI (g : Gc) (X : L2.Cx) (i : I) : TI := fun σ H R => tR g X SrcAt (evI g.c i) σ H R
variable {tg : Expr} {i : I}
theorem PI.mono {t t' : TI} (h : PI X tg x t) (m : ∀ σ H Q, t' σ H Q → t σ H Q) : PI X tg x t' := ⟨fun pins s σ H Q I q => h.run pins s σ H Q I (m _ _ _ q)⟩

/-- the walked value is a list or a tuple, a text, or a cell -/
theorem si_list (ha : PE X x (tE g X a)) : True := trivial
theorem in62_ok {i : Int} (h : in62 i = true) : -(2 ^ 62) ≤ i ∧ i < 2 ^ 62 := by
  obtain ⟨a, b⟩ := ba h
  have := of_decide_eq_true a
  have := of_decide_eq_true b
  omega
/-- of an expression: whatever it is, one rule runs -/
theorem si_of (ha : PE X x (tE g X a)) : PI X tg x (tI g X (.of a)) := by
  refine ⟨fun pins s σ H R I h => ?_⟩
  obtain ⟨l, ρ, env, st, rs, re, h⟩ := h
  simp only [evI] at h
  -- first the value, then by its kind
  have q := ha.run pins s σ H (fun v H1 => ∃ (ρ1 : List Addr) (st1 : Sto) (d : D), RelSt (g.k X l) ρ1 H1 g.M st1 ∧ Rep (g.k X l) ρ1 H1 d v ∧ Out (g.k X l) g.M (SrcAt (g.k X l)) (ErX g (g.k X l)) ρ1 H1 (match d with
      | .tup ds => .ok (.its ds) st1
      | .lst ds => .ok (.its ds) st1
      | .scr ds => .ok (.its ds) st1
      | .ref n => .ok (.cell n) st1
      | .str z => bif fit z.length then .ok (.its (z.cps.toList.map fun k => .str ⟨#[k]⟩)) st1 else .no
      | _ => .no) R) I (tR.bind rs re h fun d st1 v ρ1 H1 s1 rs1 re1 r1 h1 => ⟨ρ1, st1, d, rs1, r1, h1⟩)
  refine thn q fun v s1 ⟨w, H1, I1, r1, ρ1, st1, d, rs1, rd, h1⟩ => ?_
  -- a reading of the value at hand
  have P : PE X x (tE g X a) := ha
  split at h1
  · rename_i ds
    obtain ⟨p, vs, rfl, f1, f2, f3⟩ := rep_tup rd
    cases r1
    obtain ⟨its, rv, pp, hz⟩ := I1.tuple f1.sq
    refine wpAny_pyIter_tuple (show s1.heap.IsTuple p its.toArray from pp) ?_
    refine ⟨s1.heap.objs.size, [s1.heap.objs.size], _, _, H1, rfl, I1.kept (t' := s1.toks) fun b o e => Heap.get?_push_of_some _ e, turn_tuple p _, ⟨_, Heap.get?_push_size _ rfl, rfl, rfl⟩, fun b hb => ?_, Out.val h1 rs1 (.inr (.inl ⟨p, vs, rfl, f1, f2, f3⟩))⟩
    have e : b = s1.heap.objs.size := by simpa using hb
    subst e
    exact I1.fpOk (Nat.le_refl _) (I1.hok.fresh (Nat.le_refl _))
  · rename_i ds
    obtain ⟨p, vs, rfl, f1, f2, f3⟩ := rep_lst rd
    cases r1
    obtain ⟨its, rv, pp, hz⟩ := I1.list (.of f1.2.2)
    refine wpAny_pyIter_list pp.isList ?_
    refine ⟨s1.heap.objs.size, [s1.heap.objs.size], _, _, H1, rfl, I1.kept (t' := s1.toks) fun b o e => Heap.get?_push_of_some _ e, turn_list p _, ⟨_, Heap.get?_push_size _ rfl, rfl, rfl⟩, fun b hb => ?_, Out.val h1 rs1 (.inl ⟨p, vs, rfl, .inl ⟨f1.1, f1.2.1, .inl f1.2.2⟩, f2, f3⟩)⟩
    have e : b = s1.heap.objs.size := by simpa using hb
    subst e
    exact I1.fpOk (Nat.le_refl _) (I1.hok.fresh (Nat.le_refl _))
  · rename_i ds
    obtain ⟨p, vs, rfl, f1, f2, f3⟩ := rep_scr rd
    cases r1
    obtain ⟨its, rv, pp, hz⟩ := I1.list f1.sq
    refine wpAny_pyIter_list pp.isList ?_
    refine ⟨s1.heap.objs.size, [s1.heap.objs.size], _, _, H1, rfl, I1.kept (t' := s1.toks) fun b o e => Heap.get?_push_of_some _ e, turn_list p _, ⟨_, Heap.get?_push_size _ rfl, rfl, rfl⟩, fun b hb => ?_, Out.val h1 rs1 (.inl ⟨p, vs, rfl, f1, f2, f3⟩)⟩
    have e : b = s1.heap.objs.size := by simpa using hb
    subst e
    exact I1.fpOk (Nat.le_refl _) (I1.hok.fresh (Nat.le_refl _))
  · rename_i n
    obtain ⟨p, rfl, hp⟩ := rep_ref rd
    cases r1
    obtain ⟨m, c, e1, e2, e3⟩ := rs1.there (List.mem_of_getElem? hp)
    cases c with
    | lst ds =>
      obtain ⟨vs, f1, f2, f3⟩ := e3
      obtain ⟨its, rv, pp, hz⟩ := I1.list (.of f1)
      refine wpAny_pyIter_list pp.isList ?_
      refine ⟨s1.heap.objs.size, [s1.heap.objs.size], _, _, H1, rfl, I1.kept (t' := s1.toks) fun b o e => Heap.get?_push_of_some _ e, turn_list p _, ⟨_, Heap.get?_push_size _ rfl, rfl, rfl⟩, fun b hb => ?_, Out.val h1 rs1 ⟨p, rfl, hp⟩⟩
      have e : b = s1.heap.objs.size := by simpa using hb
      subst e
      exact I1.fpOk (Nat.le_refl _) (I1.hok.fresh (Nat.le_refl _))
    | dic _ => exact e3.elim
    | set _ => exact e3.elim
    | ins _ _ => exact e3.elim
  · rename_i z
    cases rep_str rd
    obtain ⟨t, rfl⟩ := r1
    cases c : fit z.length with
    | false =>
      rw [c] at h1
      exact h1.elim
    | true =>
      rw [c] at h1
      have hj : R (Its z) H1 := Out.val h1 rs1 (.inr (.inr (.inr (.inl ⟨z, rfl, fit_le c, rfl⟩))))
      cases ha : z.cps.all (· < 128)
      · exact wpAny_pyIter_wide ha (pi_one (tk := s1.toks) I1 _ (turn_str _ z t "str_iterator" (.inr rfl)) ⟨_, Heap.get?_push_size _ rfl, rfl, rfl⟩ hj)
      · exact wpAny_pyIter_ascii ha (pi_one (tk := s1.toks) I1 _ (turn_str _ z t "str_ascii_iterator" (.inl rfl)) ⟨_, Heap.get?_push_size _ rfl, rfl, rfl⟩ hj)
  · exact h1.elim
def Es.len : Es → Nat
  | .nil => 0
  | .cons _ r => r.len + 1
theorem evEs_len {c : Cx} : ∀ {es : Es} {env : List D} {st : Sto} {ds : List D} {st' : Sto}, evEs c es env st = .ok ds st' → ds.length = es.len
  | .nil, _, _, _, _, h => by
    simp only [evEs] at h
    cases h
    rfl
  | .cons e r, _, _, _, _, h => by
    simp only [evEs] at h
    obtain ⟨d, s1, _, h⟩ := bind_ok h
    obtain ⟨ds, s2, h2, h⟩ := bind_ok h
    cases h
    simp [Es.len, evEs_len h2]
theorem si_rng1 (hg : Gl X "range") (hm : X.mg "range" = none) (hs : noStar [x] = true) (hl : es.len = 1) (ha : PA X [x] (tEs g X es)) : PI X tg (.Call (.Name "range" p) [x] [] pos) (tI g X (.rng es)) := by
  obtain ⟨h1, h2⟩ := noStar_cons hs X.env
  refine PI.mono (pi_range1 hg hm ha h1) fun σ H R h => ?_
  obtain ⟨l, ρ, env, st, rs, re, h⟩ := h
  simp only [evI] at h
  refine tR.bindE rs re h fun ds st1 vs ρ1 H1 e s1 rs1 re1 r1 h1 => ?_
  have hl' : ds.length = 1 := (evEs_len e).trans hl
  match ds, hl', r1, h1 with
  | [d], _, r1, h1 =>
    obtain ⟨v, rfl, rv⟩ := reps1 r1
    cases d with
    | int n =>
      cases rep_int rv
      unfold rngD at h1
      dsimp only at h1
      cases c : in62 n && fit n.toNat with
      | false =>
        rw [c] at h1
        exact h1.elim
      | true =>
        rw [c] at h1
        obtain ⟨c1, c2⟩ := ba c
        obtain ⟨c3, c4⟩ := in62_ok c1
        refine ⟨n, rfl, c3, c4, Out.val h1 rs1 (.inr (.inr (.inl ⟨0, n.toNat, rfl, fit_le c2, ?_⟩)))⟩
        simp
    | _ => exact h1.elim
theorem si_rng2 (hg : Gl X "range") (hm : X.mg "range" = none) (hs : noStar [x, y] = true) (hl : es.len = 2) (ha : PA X [x, y] (tEs g X es)) : PI X tg (.Call (.Name "range" p) [x, y] [] pos) (tI g X (.rng es)) := by
  obtain ⟨h1, h2⟩ := noStar_cons hs X.env
  obtain ⟨h3, h4⟩ := noStar_cons h2 X.env
  refine PI.mono (pi_range2 hg hm ha (by rw [h1, h3]; rfl) (by rw [h3]; rfl)) fun σ H R h => ?_
  obtain ⟨l, ρ, env, st, rs, re, h⟩ := h
  simp only [evI] at h
  refine tR.bindE rs re h fun ds st1 vs ρ1 H1 e s1 rs1 re1 r1 h1 => ?_
  have hl' : ds.length = 2 := (evEs_len e).trans hl
  match ds, hl', r1, h1 with
  | [d, d2], _, r1, h1 =>
    obtain ⟨v, v2, rfl, rv, rv2⟩ := reps2 r1
    cases d with
    | int n =>
      cases d2 with
      | int m =>
        cases rep_int rv
        cases rep_int rv2
        unfold rngD at h1
        dsimp only at h1
        cases c : in62 n && in62 m && fit (m - n).toNat with
        | false =>
          rw [c] at h1
          exact h1.elim
        | true =>
          rw [c] at h1
          obtain ⟨c1, c2⟩ := ba c
          obtain ⟨c3, c4⟩ := ba c1
          obtain ⟨c5, c6⟩ := in62_ok c3
          obtain ⟨c7, c8⟩ := in62_ok c4
          exact ⟨n, m, rfl, ⟨c5, c6, c7, c8⟩, Out.val h1 rs1 (.inr (.inr (.inl ⟨n, (m - n).toNat, rfl, fit_le c2, rfl⟩)))⟩
      | _ => exact h1.elim
    | _ => exact h1.elim
/-- enumerate over a list that stands still -/
theorem si_enu {elts : List Expr} {kk : Nat} {tpos : Pos} (hg : Gl X "enumerate") (hm : X.mg "enumerate" = none) (hs : noStar [x] = true) (ha : PE X x (tE g X a)) : PI X (.Tuple elts kk tpos) (.Call (.Name "enumerate" p) [x] [] pos) (tI g X (.enu a)) := by
  obtain ⟨h1, h2⟩ := noStar_cons hs X.env
  refine PI.mono (pi_enum hg hm (pa_cons ha pa_nil h1) h1) fun σ H R h => ?_
  obtain ⟨l, ρ, env, st, rs, re, h⟩ := h
  simp only [evI] at h
  show tE g X a σ H _
  refine tR.bind rs re h fun d st1 v ρ1 H1 s1 rs1 re1 r1 h1 => ?_
  split at h1
  · rename_i ds
    obtain ⟨p, vs, rfl, f1, f2, f3⟩ := rep_lst r1
    exact ⟨p, vs, rfl, .of f1.2.2, Out.val h1 rs1 (.inr (.inr (.inr (.inr ⟨p, vs, ds, rfl, .inl ⟨f1.1, f1.2.1, .inl f1.2.2⟩, f2, f3, rfl⟩))))⟩
  · exact h1.elim

/-! ### targets -/
mutual
def gP (K : PySem.W.Frag) : Pat → TG
  | .name i => gName i
  | .tup ps => gTup K (pLen ps) (gPs K ps)
def gPs (K : PySem.W.Frag) : List Pat → TGs
  | [] => gNil
  | p :: r => gCons (gP K p) (gPs K r)
def pLen : List Pat → Nat
  | [] => 0
  | _ :: r => pLen r + 1
end
mutual
/-- the slots that a target writes are among these -/
def slotsIn (vs : List Nat) : Pat → Bool
  | .name i => vs.contains i
  | .tup ps => slotsInS vs ps
def slotsInS (vs : List Nat) : List Pat → Bool
  | [] => true
  | p :: r => slotsIn vs p && slotsInS vs r
end
theorem wipe_none {σ : L2.St} {i : Nat} : ∀ {vs : List Nat}, i ∈ vs → i < σ.length → (L2.wipe σ vs)[i]? = some none
  | v :: vs, h, hl => by
    unfold L2.wipe
    by_cases e : v = i
    · subst e
      rw [List.getElem?_set_self (by rw [L2.wipe_length]; exact hl)]
    · rw [List.getElem?_set_ne e]
      rcases List.mem_cons.mp h with h | h
      · exact absurd h.symm e
      · exact wipe_none h hl
theorem wipe_get {σ : L2.St} {i : Nat} : ∀ {vs : List Nat}, i ∉ vs → (L2.wipe σ vs)[i]? = σ[i]?
  | [], _ => rfl
  | v :: vs, h => by
    unfold L2.wipe
    have h' : i ≠ v ∧ i ∉ vs := by simpa using h
    rw [List.getElem?_set_ne (Ne.symm h'.1)]
    exact wipe_get h'.2
theorem wipe_set {σ : L2.St} {i : Nat} {o : Option V} {vs : List Nat} (h : i ∈ vs) : L2.wipe (σ.set i o) vs = L2.wipe σ vs := by
  apply List.ext_getElem?
  intro j
  by_cases hj : j ∈ vs
  · by_cases hl : j < σ.length
    · rw [wipe_none hj (by simpa using hl), wipe_none hj hl]
    · rw [List.getElem?_eq_none (by rw [L2.wipe_length]; simpa using hl), List.getElem?_eq_none (by rw [L2.wipe_length]; simpa using hl)]
  · rw [wipe_get hj, wipe_get hj, List.getElem?_set_ne]
    intro e
    exact hj (e ▸ h)
mutual
theorem bindP_ok {K : KZ} : ∀ (p : Pat) (d : D) (env env' : List D) (v : V) (σ : L2.St) (Q : L2.St → Hp → Prop), bindP p d env = some env' → Rep K ρ H d v → RepE K ρ H env σ →
    (∀ σ', RepE K ρ H env' σ' → (∀ vs, slotsIn vs p = true → L2.wipe σ' vs = L2.wipe σ vs) → Q σ' H) → gP K.K p v σ H Q
  | .name i, d, env, env', v, σ, Q, e, r, re, k => by
    simp only [bindP] at e
    cases c : decide (i < env.length) with
    | false =>
      rw [c] at e
      cases e
    | true =>
      rw [c] at e
      cases e
      simp only [gP]
      refine k _ (re.set i r) fun vs hv => wipe_set ?_
      simp only [slotsIn] at hv
      simpa using hv
  | .tup ps, d, env, env', v, σ, Q, e, r, re, k => by
    simp only [bindP] at e
    split at e
    · rename_i ds
      obtain ⟨a, vs, rfl, f1, f2, f3⟩ := rep_tup r
      simp only [gP]
      refine ⟨a, vs, rfl, f1.sq, ?_, bindPs_ok ps ds env env' vs σ Q e f3 re fun σ' r' w => k σ' r' fun vs hv => w vs (by simpa only [slotsIn] using hv)⟩
      rw [f3.length]
      exact bindPs_len ps ds env env' e
    · cases e
theorem bindPs_ok {K : KZ} : ∀ (ps : List Pat) (ds : List D) (env env' : List D) (vs : List V) (σ : L2.St) (Q : L2.St → Hp → Prop), bindPs ps ds env = some env' → Reps K ρ H ds vs → RepE K ρ H env σ →
    (∀ σ', RepE K ρ H env' σ' → (∀ vs, slotsInS vs ps = true → L2.wipe σ' vs = L2.wipe σ vs) → Q σ' H) → gPs K.K ps vs σ H Q
  | [], [], env, env', vs, σ, Q, e, r, re, k => by
    simp only [bindPs] at e
    cases e
    simp only [gPs]
    exact ⟨by simpa [Reps] using r, k _ re fun _ _ => rfl⟩
  | [], _ :: _, _, _, _, _, _, e, _, _, _ => by simp [bindPs] at e
  | _ :: _, [], _, _, _, _, _, e, _, _, _ => by simp [bindPs] at e
  | p :: ps, d :: ds, env, env', vs, σ, Q, e, r, re, k => by
    simp only [bindPs] at e
    simp only [Reps] at r
    obtain ⟨v, vr, rfl, r1, r2⟩ := r
    split at e
    · rename_i env1 e1
      simp only [gPs]
      exact ⟨v, vr, rfl, bindP_ok p d env env1 v σ _ e1 r1 re fun σ1 re1 w1 => bindPs_ok ps ds env1 env' vr σ1 Q e r2 re1 fun σ2 re2 w2 => k σ2 re2 fun vs hv => by
        simp only [slotsInS] at hv
        rw [w2 vs (ba hv).2, w1 vs (ba hv).1]⟩
    · cases e
theorem bindPs_len : ∀ (ps : List Pat) (ds : List D) (env env' : List D), bindPs ps ds env = some env' → ds.length = pLen ps
  | [], [], _, _, _ => by simp [pLen]
  | [], _ :: _, _, _, e => by simp [bindPs] at e
  | _ :: _, [], _, _, e => by simp [bindPs] at e
  | p :: ps, d :: ds, env, env', e => by
    simp only [bindPs] at e
    split at e
    · rename_i env1 e1
      simp only [pLen, List.length_cons, bindPs_len ps ds env1 env' e]
    · cases e
end
end
end Ev

end
section
set_option Elab.async false
set_option linter.all false
set_option maxRecDepth 100000
set_option autoImplicit false
set_option maxHeartbeats 1000000
/-! EvJ: list comprehensions. -/
namespace Ev
open PySem L2
section
variable {p : Pat} {env : List D} {tc : List D → Sto → Rz Bool} {te : List D → Sto → Rz D}
/-- one walk for all sources -/
def compG (p : Pat) (env : List D) (tc : List D → Sto → Rz Bool) (te : List D → Sto → Rz D) (nx : Sto → Nat → Option (Option D)) : Nat → Nat → Sto → Rz (List D)
  | 0, _, _ => .no
  | k + 1, i, st => (match nx st i with
    | some (some d) => (match bindP p d env with
      | some env' => (tc env' st).bind fun b st0 => bif b then (te env' st0).bind fun y st1 => (compG p env tc te nx k (i + 1) st1).bind fun ys st2 => .ok (y :: ys) st2 else compG p env tc te nx k (i + 1) st0
      | none => .no)
    | some none => .ok [] st
    | none => .no)
theorem compI_eq {ds : List D} : ∀ (r : List D) (i : Nat) (st : Sto), ds.drop i = r → compI p env tc te r st = compG p env tc te (nxt (.its ds)) (r.length + 1) i st
  | [], i, st, h => by
    have : ds[i]? = none := by
      rw [← List.head?_drop, h]
      rfl
    simp only [compI, compG, nxt, this, List.length_nil, Nat.zero_add]
  | d :: r, i, st, h => by
    have e : ds[i]? = some d := by
      rw [← List.head?_drop, h]
      rfl
    have h2 : ds.drop (i + 1) = r := by
      rw [← List.drop_drop, h]
      rfl
    have ih := fun st => compI_eq r (i + 1) st h2
    simp only [compI, List.length_cons]
    rw [compG]
    simp only [nxt, e]
    cases bindP p d env with
    | none => rfl
    | some env' =>
      simp only [ih]
theorem compC_eq {n : Nat} : ∀ (k i : Nat) (st : Sto), compC p env tc te n k i st = compG p env tc te (nxt (.cell n)) k i st
  | 0, _, _ => rfl
  | k + 1, i, st => by
    have hk := fun i st => compC_eq (n := n) k i st
    rw [compC, compG]
    cases e : st[n]? with
    | none => simp only [nxt, e]
    | some c =>
      cases c with
      | lst ds =>
        have en : nxt (.cell n) st i = some ds[i]? := by simp only [nxt, e]
        rw [en]
        dsimp only
        cases ds[i]? with
        | none => rfl
        | some d =>
          dsimp only
          cases bindP p d env with
          | none => rfl
          | some env' => simp only [hk]
      | dic _ => simp only [nxt, e]
      | set _ => simp only [nxt, e]
      | ins _ _ => simp only [nxt, e]
def fuelS (s : Src) (st : Sto) : Nat := match s with
  | .its ds => ds.length + 1
  | .cell n => fuelC st n
theorem compS_eq {s : Src} {st : Sto} : compS p env tc te s st = compG p env tc te (nxt s) (fuelS s st) 0 st := by
  cases s with
  | its ds => exact compI_eq ds 0 st rfl
  | cell n => exact compC_eq _ _ _
end
section
variable {X : L2.Cx} {g : Gc} {σ : L2.St} {H H1 : Hp} {ρ ρ1 : List Addr} {st : Sto} {env : List D} {l : List Addr} {a b d : E} {x y z : Expr} {pos : Pos} {s : Src} {J : It} {F : Fw} {ζ : Zt} {q : Addr}
theorem ScrAt.hide {a : Addr} {vs : List V} (h : ScrAt (kz F (ζ.add q)) ρ H a vs) : ScrAt (kz F ζ) ρ (Ev.hide H q) a vs := by
  rcases h with ⟨m, z, t⟩ | t
  · have z' : a ≠ q ∧ a ∉ ζ.l := by simpa using z
    exact .inl ⟨m, z'.2, rd_hide t z'.1⟩
  · exact .inr t
theorem TupAt.hide {a : Addr} {vs : List V} (h : TupAt (kz F (ζ.add q)) ρ H a vs) : TupAt (kz F ζ) ρ (Ev.hide H q) a vs := by
  rcases h with ⟨m, z, t⟩ | t
  · have z' : a ≠ q ∧ a ∉ ζ.l := by simpa using z
    exact .inl ⟨m, z'.2, rd_hide t z'.1⟩
  · exact .inr t
theorem rd_some {a : Addr} {u : HO} (h : Rd H a u) : ∃ o, H a = some o := by
  rcases h with h | ⟨o, h⟩
  · exact ⟨_, h⟩
  · exact ⟨_, h⟩
theorem ScrAt.show (hp : H q = none) {o : HO} {a : Addr} {vs : List V} (h : ScrAt (kz F ζ) ρ H a vs) : ScrAt (kz F (ζ.add q)) ρ (upd H q o) a vs := by
  rcases h with ⟨m, z, t⟩ | t
  · obtain ⟨u, hu⟩ := rd_some t
    have n : a ≠ q := ne_of_none hu hp
    refine .inl ⟨m, by simpa using ⟨n, z⟩, ?_⟩
    rcases t with t | ⟨o', t⟩
    · exact .inl (by rw [upd_ne n]; exact t)
    · exact .inr ⟨o', by rw [upd_ne n]; exact t⟩
  · exact .inr t
theorem TupAt.show (hp : H q = none) {o : HO} {a : Addr} {vs : List V} (h : TupAt (kz F ζ) ρ H a vs) : TupAt (kz F (ζ.add q)) ρ (upd H q o) a vs := by
  rcases h with ⟨m, z, t⟩ | t
  · obtain ⟨u, hu⟩ := rd_some t
    have n : a ≠ q := ne_of_none hu hp
    refine .inl ⟨m, by simpa using ⟨n, z⟩, ?_⟩
    rcases t with t | ⟨o', t⟩
    · exact .inl (by rw [upd_ne n]; exact t)
    · exact .inr ⟨o', by rw [upd_ne n]; exact t⟩
  · exact .inr t
theorem SrcAt.hide (h : SrcAt (kz F (ζ.add q)) ρ H s J) : SrcAt (kz F ζ) ρ (Ev.hide H q) s J := by
  cases s with
  | cell n => exact h
  | its ds =>
    rcases h with ⟨a, vs, e, h1, h2, h3⟩ | ⟨a, vs, e, h1, h2, h3⟩ | h | h | ⟨a, vs, es, e, h1, h2, h3, h4⟩
    · exact .inl ⟨a, vs, e, h1.hide, h2, Reps.hide _ _ h3⟩
    · exact .inr (.inl ⟨a, vs, e, h1.hide, h2, Reps.hide _ _ h3⟩)
    · exact .inr (.inr (.inl h))
    · exact .inr (.inr (.inr (.inl h)))
    · exact .inr (.inr (.inr (.inr ⟨a, vs, es, e, h1.hide, h2, Reps.hide _ _ h3, h4⟩)))
theorem SrcAt.show (hp : H q = none) {o : HO} (h : SrcAt (kz F ζ) ρ H s J) : SrcAt (kz F (ζ.add q)) ρ (upd H q o) s J := by
  cases s with
  | cell n => exact h
  | its ds =>
    rcases h with ⟨a, vs, e, h1, h2, h3⟩ | ⟨a, vs, e, h1, h2, h3⟩ | h | h | ⟨a, vs, es, e, h1, h2, h3, h4⟩
    · exact .inl ⟨a, vs, e, h1.show hp, h2, Reps.show hp _ _ h3⟩
    · exact .inr (.inl ⟨a, vs, e, h1.show hp, h2, Reps.show hp _ _ h3⟩)
    · exact .inr (.inr (.inl h))
    · exact .inr (.inr (.inr (.inl h)))
    · exact .inr (.inr (.inr (.inr ⟨a, vs, es, e, h1.show hp, h2, Reps.show hp _ _ h3, h4⟩)))
/-- no wish about errors -/
def Gc.nox (g : Gc) : Gc := { g with W := fun _ _ _ => False }
theorem hide_upd2 {o : HO} : upd (hide H q) q o = upd H q o := by
  funext b
  by_cases e : b = q
  · rw [e, upd_same, upd_same]
  · rw [upd_ne e, upd_ne e, hide_ne e]
theorem hide_hide {o : HO} : hide (upd H q o) q = hide H q := by
  funext b
  by_cases e : b = q
  · rw [e, hide_same, hide_same]
  · rw [hide_ne e, hide_ne e, upd_ne e]
/-- the outcome of an evaluation that no error may leave -/
theorem Out.calm {α β γ δ : Type} {K K' : KZ} {M : Nat → Prop} {Rl : List Addr → Hp → α → β → Prop} {Rl' : List Addr → Hp → γ → δ → Prop} {Er Er' : Nat → D → List Addr → Hp → Prop} {r : Rz α} {f : α → Sto → Rz γ} {Q : δ → Hp → Prop} {Q1 : β → Hp → Prop} {ρ' : List Addr} {H' : Hp}
    (h : Out K' M Rl' Er' ρ' H' (r.calm.bind f) Q) (k : ∀ d st1 v ρ1 H1, r = .ok d st1 → Step ρ H ρ1 H1 → RelSt K ρ1 H1 M st1 → Rl ρ1 H1 d v → Q1 v H1) : Out K M Rl Er ρ H r Q1 := by
  cases r with
  | ok d st' => exact fun v ρ' H' s r rl => k d st' v ρ' H' rfl s r rl
  | er c w st' => exact h.elim
  | no => exact h.elim
theorem Rz.bind_assoc {α β γ : Type} {x : Rz α} {f : α → Sto → Rz β} {k : β → Sto → Rz γ} : (x.bind f).bind k = x.bind fun a st => (f a st).bind k := by
  cases x <;> rfl
theorem bind_pre {α : Type} {x : Rz (List α)} : (x.bind fun ys st => .ok ([] ++ ys) st) = x := by
  cases x <;> rfl
theorem wipe_idem {vs : List Nat} : L2.wipe (L2.wipe σ vs) vs = L2.wipe σ vs := by
  apply List.ext_getElem?
  intro j
  by_cases hj : j ∈ vs
  · by_cases hl : j < σ.length
    · rw [wipe_none hj (by rw [L2.wipe_length]; exact hl), wipe_none hj hl]
    · rw [List.getElem?_eq_none (by rw [L2.wipe_length, L2.wipe_length]; simpa using hl), List.getElem?_eq_none (by rw [L2.wipe_length]; simpa using hl)]
  · rw [wipe_get hj]
theorem m_cmpG {tt : TT} {p : Pat} {i : I} {e : E} {vs : List Nat} {tc : List D → Sto → Rz Bool} {L0 : L}
    (htt : ∀ {l ρ env st σ H} {Q1 : Bool → Hp → Prop}, RelSt (g.k X l) ρ H g.M st → RepE (g.k X l) ρ H env σ → Out (g.k X l) g.M (fun _ _ (b k : Bool) => b = k) (ErX g.nox (g.k X l)) ρ H (tc env st) Q1 → tt σ H Q1)
    (hsl : slotsIn vs p = true)
    (hev : ∀ env st, evL g.c L0 env st = (evI g.c i env st).bind fun s st => compS p (wipeD env vs) (fun env st => (tc env st).calm) (fun env st => (evE g.c e env st).calm) s st) {Q : VK} (h : tL g X L0 σ H Q) : tLc (tI g X i) (gP X.K p) tt (tE g.nox X e) vs σ H Q := by
    obtain ⟨l, ρ, env, st, rs, re, h⟩ := h
    rw [hev] at h
    show tI g X i σ H _
    refine tR.bind rs re h fun s st1 J ρ1 H1 s1 rs1 re1 sa h1 => ?_
    intro D hD
    have hl : D ∉ l := rs1.freshZ hD
    rw [compS_eq] at h1
    refine ⟨fun j m H => ∃ ρ st ads acc, H D = some (.lst acc) ∧ (acc.length ≤ j ∧ j ≤ sizeLine) ∧ RelSt (g.k X (D :: l)) ρ H g.M st ∧ RepE (g.k X (D :: l)) ρ H (wipeD env vs) (L2.wipe σ vs) ∧ SrcAt (g.k X (D :: l)) ρ H s J ∧ Reps (g.k X (D :: l)) ρ H ads acc ∧
      Out (g.k X l) g.M (RelL (g.k X l)) (ErX g (g.k X l)) ρ (hide H D) ((compG p (wipeD env vs) (fun env st => (tc env st).calm) (fun env st => (evE g.c e env st).calm) (nxt s) m j st).bind fun ys st => .ok (ads ++ ys) st) (freshQ Q), ⟨fuelS s st1, ρ1, st1, [], [], upd_same, ⟨Nat.le_refl _, Nat.zero_le _⟩, rs1.show hD, RepE.show hD _ _ (re1.wipe _), sa.show hD, Reps.nil, by rw [hide_upd hD, bind_pre]; exact h1⟩, ?_⟩
    rintro j m H2 ⟨ρ2, st2, ads, acc, hDl, ⟨hz, hj⟩, rs2, re2, sa2, ra2, h2⟩
    have hDρ : D ∉ ρ2 := (rs2.rsv D List.mem_cons_self).1
    cases m with
    | zero => exact h2.elim
    | succ m =>
      rw [compG] at h2
      obtain ⟨T1, T2⟩ := sa2.turn rs2 j
      cases en : nxt s st2 j with
      | none =>
        rw [en] at h2
        exact h2.elim
      | some o =>
        rw [en] at h2
        cases o with
        | none =>
          refine .inl ⟨T1 en, ?_⟩
          have q := h2 acc ρ2 (hide H2 D) Step.refl (rs2.hide hl) ⟨by rw [List.append_nil]; exact Reps.hide _ _ ra2, Nat.le_trans hz hj⟩ D hide_same
          rw [upd_hide hDl] at q
          exact q
        | some d =>
          obtain ⟨hj', go, y⟩ := T2 d en
          refine .inr ⟨go, _, fun H' w => ⟨m, Nat.lt_succ_self _, w⟩, fun x H3 yl => ?_⟩
          obtain ⟨s3, rs3, r3⟩ := y x H3 yl
          dsimp only at h2
          cases eb : bindP p d (wipeD env vs) with
          | none =>
            rw [eb] at h2
            exact h2.elim
          | some env' =>
            rw [eb] at h2
            dsimp only at h2
            refine bindP_ok p d _ env' x _ _ eb r3 (RepE.step s3 _ _ re2) fun σ' re' wp => ⟨by rw [wp _ hsl, wipe_idem], ?_⟩
            rw [Rz.bind_assoc] at h2
            refine htt rs3 re' (Out.calm h2 fun b st4 b' ρ4 H4 e4 s4 rs4 eb4 => ?_)
            subst eb4
            have t4 := s3.trans s4
            have D4 := (t4.2 D _ hDl hDρ (fun _ z => by cases z)).1
            rw [e4] at h2
            cases b with
            | false =>
              rw [if_neg Bool.false_ne_true]
              have t5 : Step ρ2 (hide H2 D) ρ4 (hide H4 D) := Step.hide (o := .lst acc) hide_same (by rw [upd_hide hDl]; exact t4)
              exact ⟨ρ4, st4, ads, acc, D4, ⟨Nat.le_succ_of_le hz, hj'⟩, rs4, RepE.step t4 _ _ re2, SrcAt.step t4 sa2, Reps.step t4 _ _ ra2, Out.step t5 h2⟩
            | true =>
              rw [if_pos rfl]
              have h2' : Out (g.k X l) g.M (RelL (g.k X l)) (ErX g (g.k X l)) ρ2 (hide H2 D) (((evE g.c e env' st4).calm.bind fun y st1 => (compG p (wipeD env vs) (fun env st => (tc env st).calm) (fun env st => (evE g.c e env st).calm) (nxt s) m (j + 1) st1).bind fun ys st2 => .ok (y :: ys) st2).bind fun ys st => .ok (ads ++ ys) st) (freshQ Q) := h2
              rw [Rz.bind_assoc] at h2'
              refine ⟨D :: l, ρ4, env', st4, rs4, RepE.step s4 _ _ re', Out.calm h2' fun dy st5 yv ρ5 H5 e5 s5 rs5 r5 => ?_⟩
              have t5 := t4.trans s5
              have D5 := (t5.2 D _ hDl hDρ (fun _ z => by cases z)).1
              have t6 : Step ρ2 (hide H2 D) ρ5 (hide H5 D) := Step.hide (o := .lst acc) hide_same (by rw [upd_hide hDl]; exact t5)
              refine ⟨acc, D5, Nat.lt_of_le_of_lt hz hj', ρ5, st5, ads ++ [dy], acc ++ [yv], upd_same, ⟨by rw [List.length_append]; exact Nat.succ_le_succ hz, hj'⟩, ?_, ?_, ?_, ?_, ?_⟩
              · rw [← hide_upd2 (o := .lst (acc ++ [yv]))]
                exact (RelSt.hide (F := X.fw) (ζ := g.z l) (p := D) rs5 hl).show hide_same
              · rw [← hide_upd2 (o := .lst (acc ++ [yv]))]
                exact RepE.show (F := X.fw) (ζ := g.z l) (p := D) hide_same _ _ (RepE.hide (F := X.fw) (ζ := g.z l) (p := D) _ _ (RepE.step t5 _ _ re2))
              · rw [← hide_upd2 (o := .lst (acc ++ [yv]))]
                exact SrcAt.show (F := X.fw) (ζ := g.z l) (q := D) hide_same (SrcAt.hide (F := X.fw) (ζ := g.z l) (q := D) (SrcAt.step t5 sa2))
              · rw [← hide_upd2 (o := .lst (acc ++ [yv]))]
                exact Reps.show (F := X.fw) (ζ := g.z l) (p := D) hide_same _ _ (Reps.hide (F := X.fw) (ζ := g.z l) (p := D) _ _ ((Reps.step t5 _ _ ra2).append (Reps.cons r5 Reps.nil)))
              · rw [hide_hide]
                rw [show evE g.c e env' st4 = .ok dy st5 from e5] at h2'
                have h3 := Out.step t6 h2'
                have h4 : Out (g.k X l) g.M (RelL (g.k X l)) (ErX g (g.k X l)) ρ5 (hide H5 D) (((compG p (wipeD env vs) (fun env st => (tc env st).calm) (fun env st => (evE g.c e env st).calm) (nxt s) m (j + 1) st5).bind fun ys st2 => .ok (dy :: ys) st2).bind fun ys st => .ok (ads ++ ys) st) (freshQ Q) := h3
                rw [Rz.bind_assoc] at h4
                have e6 : (fun (ys : List Ev.D) (st : Sto) => ((Rz.ok (dy :: ys) st).bind fun ys st => .ok (ads ++ ys) st : Rz (List Ev.D))) = fun ys st => .ok (ads ++ [dy] ++ ys) st := by
                  funext ys st
                  simp [Rz.bind]
                rw [e6] at h4
                exact h4
theorem sl_cmpG {tt : TT} {p : Pat} {i : I} {e : E} {own : List (Str × Nat)} {L0 : L} {elt tg iter : Expr} {ifs : List Expr} {scope : Scope} (hc : X.calm = true) (hN : X.N.Nodup) (hi : PI X tg iter (tI g X i)) (ok : BlkOk X.N X.env.scope scope own)
    (hg : ∀ (s : Shared) (H : Hp) (C : Addr) (cl : List (Str × Addr)) (fp : List Addr), PG (X.blk s H scope (compEnvC scope cl C X.env) fp) tg (gP X.K p)) (ht : ∀ (s : Shared) (H : Hp) (C : Addr) (cl : List (Str × Addr)) (fp : List Addr), PTs (X.blk s H scope (compEnvC scope cl C X.env) fp) ifs tt)
    (he : ∀ (s : Shared) (H : Hp) (C : Addr) (cl : List (Str × Addr)) (fp : List Addr), PE (X.blk s H scope (compEnvC scope cl C X.env) fp) elt (tE g.nox X e)) (hs : ∀ x, foldedSetIterable iter X.env x = pure x)
    (m : ∀ σ H Q, tL g X L0 σ H Q → tLc (tI g X i) (gP X.K p) tt (tE g.nox X e) (own.map (·.2)) σ H Q) :
    PE X (.ListComp elt [⟨tg, iter, ifs, 0⟩] scope pos) (tL g X L0) := (pe_lc hc hN hi ok hg ht he hs).mono m
theorem m_cmp' {p : Pat} {i : I} {e : E} {vs : List Nat} (hsl : slotsIn vs p = true) : ∀ σ H Q, tL g X (.cmp vs p i e) σ H Q → tLc (tI g X i) (gP X.K p) tYes (tE g.nox X e) vs σ H Q := fun σ H Q h =>
  m_cmpG (tc := fun _ st => .ok true st) (fun rs re h => Out.val h rs rfl) hsl (fun env st => by simp only [evL]; rfl) h
theorem m_cmpIf' {p : Pat} {i : I} {e : E} {t : T} {vs : List Nat} (hsl : slotsIn vs p = true) : ∀ σ H Q, tL g X (.cmpIf vs p i t e) σ H Q → tLc (tI g X i) (gP X.K p) (tT g.nox X t) (tE g.nox X e) vs σ H Q := fun σ H Q h =>
  m_cmpG (tc := evT g.c t) (fun rs re h => ⟨_, _, _, _, rs, re, h⟩) hsl (fun env st => by simp only [evL]) h
end
end Ev

end
section
set_option Elab.async false
set_option linter.all false
set_option maxRecDepth 100000
set_option autoImplicit false
set_option maxHeartbeats 1000000
/-! EvK: statements. -/
namespace Ev
open PySem L2
/-! ### stores that are swapped -/
def isStar : Expr → Bool
  | .Starred _ _ => true
  | _ => false
theorem swap2 {x y : Str} {px py pt pt2 : Pos} {kt k2 : Nat} {a b : Expr} {env : Env} (hk : env.scope.kind = .function) (hx : env.scope.names.lookup x = some .local) (hy : env.scope.names.lookup y = some .local) (hl : (py.line == px.line) = true) (hn : (y == x) = false)
    (h1 : [a, b].any isStar = false) (h2 : [a, b].all (foldedForSure 8) = false) (h3 : [a, b].all (constantsAlone 8) = false) : swappedStores [.Tuple [.Name x px, .Name y py] kt pt] (.Tuple [a, b] k2 pt2) env = pure (some [x, y]) := by
  have kx : env.kindOf x = some .local := hx
  have ky : env.kindOf y = some .local := hy
  have hb : env.blockKind = .function := by unfold Env.blockKind; rw [hk]; rfl
  unfold swappedStores
  dsimp only
  rw [if_neg (by simp [hb])]
  rw [if_neg (by show ¬ ([a, b].any isStar = true); rw [h1]; decide)]
  have e : (List.filterMap (fun e => match e with
      | Expr.Name id pos => if (env.kindOf id == some NameKind.local && pos.line == px.line) = true then some id else none
      | x => none) [Expr.Name x px, Expr.Name y py]) = [x, y] := by simp only [List.filterMap_cons, List.filterMap_nil, kx, ky, hl, beq_self_eq_true, Bool.and_self, if_true]
  show (if ((List.filterMap (fun e => match e with
      | Expr.Name id pos => if (env.kindOf id == some NameKind.local && pos.line == px.line) = true then some id else none
      | x => none) [Expr.Name x px, Expr.Name y py]).length != 2 || (List.filterMap (fun e => match e with
      | Expr.Name id pos => if (env.kindOf id == some NameKind.local && pos.line == px.line) = true then some id else none
      | x => none) [Expr.Name x px, Expr.Name y py]).eraseDups.length != (List.filterMap (fun e => match e with
      | Expr.Name id pos => if (env.kindOf id == some NameKind.local && pos.line == px.line) = true then some id else none
      | x => none) [Expr.Name x px, Expr.Name y py]).length) = true then pure none else _) = _
  rw [e]
  have ed : [x, y].eraseDups = [x, y] := by simp [List.eraseDups_cons, hn]
  rw [ed, if_neg (by simp), if_neg (by rw [h2]; decide)]
  rw [if_neg (by rw [h3]; decide)]
  exact congrArg (fun z => (pure (some z) : Sem (Option (List Str)))) e
theorem swap3 {x y z : Str} {px py pz pt pt2 : Pos} {kt k2 : Nat} {a b c : Expr} {env : Env} (hk : env.scope.kind = .function) (hx : env.scope.names.lookup x = some .local) (hy : env.scope.names.lookup y = some .local) (hz : env.scope.names.lookup z = some .local)
    (hl : (py.line == px.line) = true) (hl2 : (pz.line == px.line) = true) (hn : (y == x) = false) (hn2 : (z == x) = false) (hn3 : (z == y) = false)
    (h1 : [a, b, c].any isStar = false) (h2 : [a, b, c].all (foldedForSure 8) = false) (h3 : [a, b, c].all (constantsAlone 8) = false) : swappedStores [.Tuple [.Name x px, .Name y py, .Name z pz] kt pt] (.Tuple [a, b, c] k2 pt2) env = pure (some [x, y, z]) := by
  have kx : env.kindOf x = some .local := hx
  have ky : env.kindOf y = some .local := hy
  have kz : env.kindOf z = some .local := hz
  have hb : env.blockKind = .function := by unfold Env.blockKind; rw [hk]; rfl
  unfold swappedStores
  dsimp only
  rw [if_neg (by simp [hb])]
  rw [if_neg (by show ¬ ([a, b, c].any isStar = true); rw [h1]; decide)]
  have e : (List.filterMap (fun e => match e with
      | Expr.Name id pos => if (env.kindOf id == some NameKind.local && pos.line == px.line) = true then some id else none
      | x => none) [Expr.Name x px, Expr.Name y py, Expr.Name z pz]) = [x, y, z] := by simp only [List.filterMap_cons, List.filterMap_nil, kx, ky, kz, hl, hl2, beq_self_eq_true, Bool.and_self, if_true]
  show (if ((List.filterMap (fun e => match e with
      | Expr.Name id pos => if (env.kindOf id == some NameKind.local && pos.line == px.line) = true then some id else none
      | x => none) [Expr.Name x px, Expr.Name y py, Expr.Name z pz]).length != 3 || (List.filterMap (fun e => match e with
      | Expr.Name id pos => if (env.kindOf id == some NameKind.local && pos.line == px.line) = true then some id else none
      | x => none) [Expr.Name x px, Expr.Name y py, Expr.Name z pz]).eraseDups.length != (List.filterMap (fun e => match e with
      | Expr.Name id pos => if (env.kindOf id == some NameKind.local && pos.line == px.line) = true then some id else none
      | x => none) [Expr.Name x px, Expr.Name y py, Expr.Name z pz]).length) = true then pure none else _) = _
  rw [e]
  have ed : [x, y, z].eraseDups = [x, y, z] := by simp [List.eraseDups_cons, hn, hn2, hn3]
  rw [ed, if_neg (by simp), if_neg (by rw [h2]; decide)]
  rw [if_neg (by rw [h3]; decide)]
  exact congrArg (fun z => (pure (some z) : Sem (Option (List Str)))) e
/-- a name of the frame on this line -/
def onLine (sc : Scope) (line : Nat) : Expr → Option Str
  | .Name id pos => if sc.names.lookup id == some .local && pos.line == line then some id else none
  | _ => none
/-- surely not swapped -/
def swapNo (sc : Scope) (ts vs : List Expr) : Bool :=
  !(ts.length == 2 || ts.length == 3) || vs.length != ts.length || vs.any isStar || (ts.filterMap (onLine sc ((ts.head?.map (·.pos.line)).getD 0))).length != ts.length || vs.all (foldedForSure 8)
theorem swap_none {ts vs : List Expr} {kt k2 : Nat} {pt pt2 : Pos} {env : Env} (h : swapNo env.scope ts vs = true) : swappedStores [.Tuple ts kt pt] (.Tuple vs k2 pt2) env = pure none := by
  unfold swappedStores
  dsimp only
  by_cases c1 : (!(ts.length == 2 || ts.length == 3) || vs.length != ts.length || env.blockKind != .function) = true
  · rw [if_pos c1]
  rw [if_neg c1]
  by_cases c2 : vs.any isStar = true
  · exact if_pos c2
  refine (if_neg (show ¬ (vs.any isStar = true) from c2)).trans ?_
  by_cases c3 : ((ts.filterMap (onLine env.scope ((ts.head?.map (·.pos.line)).getD 0))).length != ts.length) = true
  · refine if_pos ?_
    show ((ts.filterMap (onLine env.scope ((ts.head?.map (·.pos.line)).getD 0))).length != ts.length || ((ts.filterMap (onLine env.scope ((ts.head?.map (·.pos.line)).getD 0))).eraseDups.length != (ts.filterMap (onLine env.scope ((ts.head?.map (·.pos.line)).getD 0))).length)) = true
    rw [c3]
    rfl
  · have c4 : vs.all (foldedForSure 8) = true := by
      unfold swapNo at h
      have c2' : vs.any isStar = false := by simpa using c2
      have c3' := Bool.eq_false_iff.mpr c3
      have c1' := Bool.eq_false_iff.mpr c1
      rw [Bool.or_eq_false_iff] at c1'
      rw [c2', c3', c1'.1] at h
      simpa using h
    split <;> first | rfl | exact if_pos c4

/-! ### the readings of statements -/
section
variable {X : L2.Cx} {g : Gc} {σ : L2.St} {H H1 : Hp} {ρ ρ1 : List Addr} {st : Sto} {env : List D} {l : List Addr} {sub : Nat → Nat → Bool}
def FOut (g : Gc) (X : L2.Cx) (l : List Addr) (ρ : List Addr) (H : Hp) (D : Ends) : Fl → Prop
  | .nx env st => ∀ ρ' H' σ', Step ρ H ρ' H' → RelSt (g.k X l) ρ' H' g.M st → RepE (g.k X l) ρ' H' env σ' → D.nx σ' H'
  | .rt d st => ∀ v ρ' H', Step ρ H ρ' H' → RelSt (g.k X l) ρ' H' g.M st → Rep (g.k X l) ρ' H' d v → D.rt v H'
  | .bk env st => ∀ ρ' H' σ', Step ρ H ρ' H' → RelSt (g.k X l) ρ' H' g.M st → RepE (g.k X l) ρ' H' env σ' → D.bk σ' H'
  | .ct env st => ∀ ρ' H' σ', Step ρ H ρ' H' → RelSt (g.k X l) ρ' H' g.M st → RepE (g.k X l) ρ' H' env σ' → D.ct σ' H'
  | .er c w _ st => ∀ ρ' H', Step ρ H ρ' H' → RelSt (g.k X l) ρ' H' g.M st → ErX g (g.k X l) c w ρ' H'
  | .no => False
theorem FOut.step {D : Ends} {f : Fl} (s : Step ρ H ρ1 H1) (h : FOut g X l ρ H D f) : FOut g X l ρ1 H1 D f := by
  cases f with
  | nx _ _ => exact fun ρ' H' σ' t => h ρ' H' σ' (s.trans t)
  | rt _ _ => exact fun v ρ' H' t => h v ρ' H' (s.trans t)
  | bk _ _ => exact fun ρ' H' σ' t => h ρ' H' σ' (s.trans t)
  | ct _ _ => exact fun ρ' H' σ' t => h ρ' H' σ' (s.trans t)
  | er _ _ _ _ => exact fun ρ' H' t => h ρ' H' (s.trans t)
  | no => exact h
def tF (g : Gc) (X : L2.Cx) (f : List D → Sto → Fl) : TS := fun D σ H => ∃ l ρ env st, RelSt (g.k X l) ρ H g.M st ∧ RepE (g.k X l) ρ H env σ ∧ FOut g X l ρ H D (f env st)
def tS (g : Gc) (X : L2.Cx) (sub : Nat → Nat → Bool) (s : S) : TS := tF g X (evS g.c sub s)
def tSs (g : Gc) (X : L2.Cx) (sub : Nat → Nat → Bool) (s : Ss) : TS := tF g X (evSs g.c sub s)
theorem _root_.L2.PS.mono {e : Stmt} {t t' : TS} (h : PS X e t) (m : ∀ D σ H, t' D σ H → t D σ H) : PS X e t' := ⟨fun pins s σ H D I q => h.run pins s σ H D I (m _ _ _ q)⟩
theorem _root_.L2.PSs.mono {e : List Stmt} {t t' : TS} (h : PSs X e t) (m : ∀ D σ H, t' D σ H → t D σ H) : PSs X e t' := ⟨fun pins s σ H D I q => h.run pins s σ H D I (m _ _ _ q)⟩
theorem tF.run {α β : Type} {Rl : KZ → List Addr → Hp → α → β → Prop} {x : List D → Sto → Rz α} {k : α → Sto → Fl} {D : Ends} {Q1 : β → Hp → Prop}
    (rs : RelSt (g.k X l) ρ H g.M st) (re : RepE (g.k X l) ρ H env σ) (h : FOut g X l ρ H D ((x env st).run env k))
    (cont : ∀ d st1 v ρ1 H1, x env st = .ok d st1 → Step ρ H ρ1 H1 → RelSt (g.k X l) ρ1 H1 g.M st1 → RepE (g.k X l) ρ1 H1 env σ → Rl (g.k X l) ρ1 H1 d v → FOut g X l ρ1 H1 D (k d st1) → Q1 v H1) : tR g X Rl x σ H Q1 := by
  refine ⟨l, ρ, env, st, rs, re, ?_⟩
  cases e : x env st with
  | ok d st' =>
    rw [e] at h
    exact fun v ρ' H' s r rl => cont d st' v ρ' H' e s r (RepE.step s _ _ re) rl (FOut.step s h)
  | er c w st' =>
    rw [e] at h
    exact h
  | no =>
    rw [e] at h
    exact h
variable {a b d : E} {x y z : Expr} {xs : List Expr} {es : Es} {p : Pat} {pos p1 : Pos} {tg : Expr}
theorem ss_nil : PSs X [] (tSs g X sub .nil) := pss_nil.mono fun D σ H h => by
  obtain ⟨l, ρ, env, st, rs, re, h⟩ := h
  simp only [evSs] at h
  exact h ρ H σ Step.refl rs re
theorem ss_cons {s : S} {r : Ss} {e : Stmt} {es : List Stmt} (ha : PS X e (tS g X sub s)) (hb : PSs X es (tSs g X sub r)) : PSs X (e :: es) (tSs g X sub (.cons s r)) := (pss_cons ha hb).mono fun D σ H h => by
  obtain ⟨l, ρ, env, st, rs, re, h⟩ := h
  simp only [evSs] at h
  refine ⟨l, ρ, env, st, rs, re, ?_⟩
  cases e : evS g.c sub s env st with
  | nx env' st' =>
    rw [e] at h
    exact fun ρ' H' σ' s' rs' re' => ⟨l, ρ', env', st', rs', re', FOut.step s' h⟩
  | rt _ _ =>
    rw [e] at h
    exact h
  | bk _ _ =>
    rw [e] at h
    exact h
  | ct _ _ =>
    rw [e] at h
    exact h
  | er _ _ _ _ =>
    rw [e] at h
    exact h
  | no =>
    rw [e] at h
    exact h
/-! ### assignments -/
theorem m_set {D : Ends} (h : tS g X sub (.set p a) D σ H) : tAsg (tE g X a) (gP X.K p) D σ H := by
  obtain ⟨l, ρ, env, st, rs, re, h⟩ := h
  simp only [evS] at h
  show tE g X a σ H _
  refine tF.run rs re h fun d st1 v ρ1 H1 e s1 rs1 re1 r1 h1 => ?_
  split at h1
  · rename_i env' e1
    exact bindP_ok p d env env' v σ _ e1 r1 re1 fun σ' re' _ => h1 _ _ _ Step.refl rs1 re'
  · exact h1.elim
/-- no comprehension -/
def noComp : Expr → Bool
  | .ListComp _ _ _ _ => false
  | .SetComp _ _ _ _ => false
  | .DictComp _ _ _ _ _ => false
  | _ => true
theorem noComp_swap {e : Expr} {t : Option Expr} {n : Nat} {env : Env} (h : noComp e = true) : swapsWith e t n env = pure false := by
  cases e <;> first | (cases h; done) | rfl
def noTup : Expr → Bool
  | .Tuple _ _ _ => false
  | _ => true
def nameOr (tg e : Expr) : Bool := match tg with
  | .Name _ _ => true
  | .Tuple _ _ _ => noTup e
  | .Subscript _ _ _ => true
  | _ => false
theorem swapped_no {env : Env} (h : nameOr tg x = true) : swappedStores [tg] x env = pure none := by
  cases tg <;> first | (cases h; done) | rfl | (cases x <;> first | (cases h; done) | rfl)
theorem assign_one {env : Env} (h : isStar tg = false) : (assignEach [tg] env).map (·.2) = [assign tg env] := by
  cases tg <;> first | (cases h; done) | rfl
theorem s_set (hc : noComp x = true) (hn : nameOr tg x = true) (ha : PE X x (tE g X a)) (hg : PG X tg (gP X.K p)) : PS X (.Assign [tg] x pos) (tS g X sub (.set p a)) :=
  (ps_asg ha hg (noComp_swap hc) (swapped_no hn) (assign_one (by cases tg <;> first | rfl | cases hn))).mono fun D σ H h => m_set h

/-- name = [..]: the value is swapped in, or not -/
def swB (sc : Scope) (y : Str) (ly le : Nat) (scope : Scope) : Bool := sc.names.lookup y == some .local && ly == le && !(scope.names.any fun (n, k) => n == y && (k == .local || k == .cell))
theorem swB_eq {elt : Expr} {gs : List Comprehension} {scope : Scope} {pos py : Pos} {y : Str} {l : Nat} {env : Env} (hk : env.scope.kind = .function) : swapsWith (.ListComp elt gs scope pos) (some (.Name y py)) l env = pure (swB env.scope y py.line pos.line scope) := by
  have hb : env.blockKind = .function := by unfold Env.blockKind; rw [hk]; rfl
  unfold swapsWith swB
  simp only [hb, Expr.pos]
  rfl
theorem s_setLc {i : Nat} {n : Str} {py : Pos} {elt tg iter : Expr} {ifs : List Expr} {scope : Scope} {own : List (Str × Nat)} {tt : TT} {j : I} {e : E} (hc : X.calm = true) (hk : X.env.scope.kind = .function) (hN : X.N.Nodup) (hy : X.N[i]? = some n) (hl : Loc X.env.scope n) (hf : X.fn n = true ∨ X.env.scope.names.lookup n = some .local)
    (hi : PI X tg iter (tI g X j)) (ok : BlkOk X.N X.env.scope scope own)
    (hg : ∀ (s : Shared) (H : Hp) (C : Addr) (cl : List (Str × Addr)) (fp : List Addr), PG (X.blk s H scope (compEnvC scope cl C X.env) fp) tg (gP X.K p)) (ht : ∀ (s : Shared) (H : Hp) (C : Addr) (cl : List (Str × Addr)) (fp : List Addr), PTs (X.blk s H scope (compEnvC scope cl C X.env) fp) ifs tt)
    (he : ∀ (s : Shared) (H : Hp) (C : Addr) (cl : List (Str × Addr)) (fp : List Addr), PE (X.blk s H scope (compEnvC scope cl C X.env) fp) elt (tE g.nox X e)) (hs : ∀ x, foldedSetIterable iter X.env x = pure x)
    (m : ∀ σ H Q, tE g X a σ H Q → tLc (tI g X j) (gP X.K p) tt (tE g.nox X e) (own.map (·.2)) σ H Q) :
    PS X (.Assign [.Name n py] (.ListComp elt [⟨tg, iter, ifs, 0⟩] scope p1) pos) (tS g X sub (.set (.name i) a)) := by
  have M : ∀ D σ H, tS g X sub (.set (.name i) a) D σ H → tAsg (tLc (tI g X j) (gP X.K p) tt (tE g.nox X e) (own.map (·.2))) (gName i) D σ H := fun D σ H h => by
    have q := m_set h
    simp only [gP] at q
    exact m _ _ _ q
  cases c : swB X.env.scope n py.line p1.line scope with
  | true =>
    have hl' : X.env.scope.names.lookup n = some .local := by
      unfold swB at c
      simpa using (ba (ba c).1).1
    exact (ps_setLc hc hN hy hl' (by rw [swB_eq hk, c]) hi ok hg ht he hs).mono M
  | false => exact (ps_set hN hy hl (pe_lc hc hN hi ok hg ht he hs) (by rw [swB_eq hk, c]) hf).mono M
theorem sets_cons {i : Nat} {is : List Nat} {ds env env' : List D} (h : sets env (i :: is) ds = some env') : ∃ d r, ds = d :: r ∧ sets (env.set i d) is r = some env' := by
  cases ds with
  | nil => simp [sets] at h
  | cons d r =>
    simp only [sets] at h
    cases c : decide (i < env.length) with
    | false =>
      rw [c] at h
      cases h
    | true =>
      rw [c] at h
      exact ⟨d, r, rfl, h⟩
theorem sets_nil {ds env env' : List D} (h : sets env [] ds = some env') : ds = [] ∧ env' = env := by
  cases ds with
  | nil =>
    simp only [sets] at h
    cases h
    exact ⟨rfl, rfl⟩
  | cons _ _ => simp [sets] at h
theorem repsC {K : KZ} {d : D} {ds : List D} {vs : List V} (h : Reps K ρ H (d :: ds) vs) : ∃ v r, vs = v :: r ∧ Rep K ρ H d v ∧ Reps K ρ H ds r := by simpa [Reps] using h
theorem repsN {K : KZ} {vs : List V} (h : Reps K ρ H [] vs) : vs = [] := by simpa [Reps] using h
theorem s_par2 {i j : Nat} {n m : Str} {px py pt pt2 : Pos} {kt k2 : Nat} (hc : X.calm = true) (hk : X.env.scope.kind = .function) (hN : X.N.Nodup) (hi : X.N[i]? = some n) (hj : X.N[j]? = some m) (hij : i ≠ j) (hx : X.env.scope.names.lookup n = some .local) (hy : X.env.scope.names.lookup m = some .local)
    (hl : (py.line == px.line) = true) (hn : (m == n) = false) (h1 : [x, y].any isStar = false) (h2 : [x, y].all (foldedForSure 8) = false) (h3 : [x, y].all (constantsAlone 8) = false) (ha : PA X [x, y] (tEs g X es)) :
    PS X (.Assign [.Tuple [.Name n px, .Name m py] kt pt] (.Tuple [x, y] k2 pt2) pos) (tS g X sub (.par [i, j] es)) :=
  (ps_par hc hN hi hj hij hx hy ha (swap2 hk hx hy hl hn h1 h2 h3) rfl).mono fun D σ H h => by
    obtain ⟨l, ρ, env, st, rs, re, h⟩ := h
    simp only [evS] at h
    show tR g X Reps (evEs g.c es) σ H _
    refine tF.run rs re h fun ds st1 vs ρ1 H1 e s1 rs1 re1 r1 hh => ?_
    split at hh
    · rename_i env' e1
      obtain ⟨d1, r, rfl, e2⟩ := sets_cons e1
      obtain ⟨d2, r', rfl, e3⟩ := sets_cons e2
      obtain ⟨rfl, rfl⟩ := sets_nil e3
      obtain ⟨v1, _, rfl, q1, r2⟩ := repsC r1
      obtain ⟨v2, _, rfl, q2, r3⟩ := repsC r2
      cases repsN r3
      exact ⟨v1, v2, rfl, hh _ _ _ Step.refl rs1 ((re1.set i q1).set j q2)⟩
    · exact hh.elim
theorem s_par3 {i j k : Nat} {n m o : Str} {px py pz pt pt2 : Pos} {kt k2 : Nat} (hc : X.calm = true) (hk : X.env.scope.kind = .function) (hN : X.N.Nodup) (hi : X.N[i]? = some n) (hj : X.N[j]? = some m) (hk' : X.N[k]? = some o) (hij : i ≠ j) (hik : i ≠ k) (hjk : j ≠ k)
    (hx : X.env.scope.names.lookup n = some .local) (hy : X.env.scope.names.lookup m = some .local) (hz : X.env.scope.names.lookup o = some .local)
    (hl : (py.line == px.line) = true) (hl2 : (pz.line == px.line) = true) (hn : (m == n) = false) (hn2 : (o == n) = false) (hn3 : (o == m) = false) (h1 : [x, y, z].any isStar = false) (h2 : [x, y, z].all (foldedForSure 8) = false) (h3 : [x, y, z].all (constantsAlone 8) = false) (ha : PA X [x, y, z] (tEs g X es)) :
    PS X (.Assign [.Tuple [.Name n px, .Name m py, .Name o pz] kt pt] (.Tuple [x, y, z] k2 pt2) pos) (tS g X sub (.par [i, j, k] es)) :=
  (ps_par3 hc hN hi hj hk' hij hik hjk hx hy hz ha (swap3 hk hx hy hz hl hl2 hn hn2 hn3 h1 h2 h3) rfl).mono fun D σ H h => by
    obtain ⟨l, ρ, env, st, rs, re, h⟩ := h
    simp only [evS] at h
    show tR g X Reps (evEs g.c es) σ H _
    refine tF.run rs re h fun ds st1 vs ρ1 H1 e s1 rs1 re1 r1 hh => ?_
    split at hh
    · rename_i env' e1
      obtain ⟨d1, r, rfl, e2⟩ := sets_cons e1
      obtain ⟨d2, r', rfl, e3⟩ := sets_cons e2
      obtain ⟨d3, r'', rfl, e4⟩ := sets_cons e3
      obtain ⟨rfl, rfl⟩ := sets_nil e4
      obtain ⟨v1, _, rfl, q1, r2⟩ := repsC r1
      obtain ⟨v2, _, rfl, q2, r3⟩ := repsC r2
      obtain ⟨v3, _, rfl, q3, r4⟩ := repsC r3
      cases repsN r4
      exact ⟨v1, v2, v3, rfl, hh _ _ _ Step.refl rs1 (((re1.set i q1).set j q2).set k q3)⟩
    · exact hh.elim
theorem bindPs_sets : ∀ (is : List Nat) (ds env : List D), bindPs (is.map Pat.name) ds env = sets env is ds
  | [], [], _ => by simp [bindPs, sets]
  | [], _ :: _, _ => by simp [bindPs, sets]
  | _ :: _, [], _ => by simp [bindPs, sets]
  | i :: is, d :: ds, env => by
    simp only [List.map_cons, bindPs, bindP, sets]
    cases decide (i < env.length) with
    | false => rfl
    | true => exact bindPs_sets is ds (env.set i d)
/-- the tuple is made and taken apart -/
theorem m_parN {is : List Nat} {D : Ends} (hz : es.len ≤ 1000) (h : tS g X sub (.par is es) D σ H) : tS g X sub (.set (.tup (is.map Pat.name)) (.tup es)) D σ H := by
  obtain ⟨l, ρ, env, st, rs, re, h⟩ := h
  refine ⟨l, ρ, env, st, rs, re, ?_⟩
  simp only [evS, evE] at h ⊢
  cases e : evEs g.c es env st with
  | ok ds st1 =>
    rw [e] at h
    have hl : fit ds.length = true := by
      rw [evEs_len e]
      exact decide_eq_true (Nat.le_trans hz (by rw [sizeLine_eq]; decide))
    simp only [Rz.bind, hl, cond_true, Rz.run] at h ⊢
    rw [bindP, bindPs_sets]
    exact h
  | er _ _ _ =>
    rw [e] at h
    exact h
  | no =>
    rw [e] at h
    exact h
theorem s_parN {is : List Nat} {ts : List Expr} {kt k2 : Nat} {pt pt2 : Pos} (hz : es.len ≤ 1000) (hw : swapNo X.env.scope ts xs = true) (ha : PA X xs (tEs g X es)) (hg : PG X (.Tuple ts kt pt) (gP X.K (.tup (is.map Pat.name)))) : PS X (.Assign [.Tuple ts kt pt] (.Tuple xs k2 pt2) pos) (tS g X sub (.par is es)) :=
  (ps_asg (s_tup (es := es) ha) hg rfl (swap_none hw) rfl).mono fun D σ H h => m_set (m_parN hz h)
/-! ### o[i] = e -/
theorem stsD_set {o i d : D} {K : KZ} {vo vi vd : V} {st' : Sto} (hM : ∀ m, g.M m → m ≤ g.c.n0) (rs : RelSt K ρ H g.M st) (ro : Rep K ρ H o vo) (ri : Rep K ρ H i vi) (rd : Rep K ρ H d vd) (h : stsD g.c.n0 st o i d = some st') {Q : Hp → Prop} (k : ∀ H', Step ρ H ρ H' → RelSt K ρ H' g.M st' → Q H') : rSetL vo vi vd H Q := by
  unfold stsD at h
  split at h
  · rename_i n
    split at h
    · rename_i ds e
      split at h
      · rename_i z
        split at h
        · rename_i j hj
          cases c : may g.c.n0 n d with
          | false =>
            rw [c] at h
            cases h
          | true =>
            rw [c] at h
            cases h
            obtain ⟨a, vs, rfl, h2, h3, h4, h5⟩ := cell_of rs ro e
            cases rep_int ri
            refine ⟨a, vs, z, j, rfl, rfl, h3, by rw [h5.length]; exact hj, k _ (Step.write rs h2) (rs.write h2 (by rw [List.length_set]; exact h4) (h5.set j rd) fun m hm hn => ?_)⟩
            have q1 := rs.knows hm hn e
            have q2 := may_upTo c hm hn
            rw [upTos_iff] at q1 ⊢
            intro u hu
            rcases List.mem_or_eq_of_mem_set hu with hu | rfl
            · exact q1 u hu
            · exact q2
        · cases h
      · cases h
    · rename_i kvs e
      obtain ⟨_, _, q⟩ := rs.cell _ _ e
      exact q.elim
    · cases h
  · cases h
theorem sole_no {e t : Expr} {n : Nat} {env : Env} (h : noComp e = true) : swapsWithSole [t] e n env = pure false := by
  show swapsWith e (some t) n env = pure false
  exact noComp_swap h
theorem s_sts (hn : noComp z = true) (ho : PE X x (tE g X a)) (hi : PE X y (tE g X b)) (hd : PE X z (tE g X d)) (hsub : ∀ v, assign (.Subscript x y p1) X.env v = (do
      let ov ← holding [v] (eval x X.env)
      let iv ← holding [v, ov] (eval y X.env)
      standAt p1
      holding [v, ov, iv] (setItem ov iv v)
      release [v, ov, iv] [])) : PS X (.Assign [.Subscript x y p1] z pos) (tS g X sub (.sts a b d)) :=
  (ps_asg hd (pg_sub ho hi set_list hsub) (sole_no hn) (swapped_no rfl) rfl).mono fun D σ H h => by
    obtain ⟨l, ρ, env, st, rs, re, h⟩ := h
    simp only [evS] at h
    show tE g X d σ H _
    refine tF.run rs re h fun dz st1 vz ρ1 H1 _ s1 rs1 re1 r1 h1 => ?_
    refine tF.run rs1 re1 h1 fun dx st2 vx ρ2 H2 _ s2 rs2 re2 r2 h2 => ?_
    refine tF.run rs2 re2 h2 fun dy st3 vy ρ3 H3 _ s3 rs3 re3 r3 h3 => ?_
    split at h3
    · rename_i st' e
      exact stsD_set g.le rs3 (Rep.step s3 _ _ r2) r3 (Rep.step (s2.trans s3) _ _ r1) e fun H' sw rs' => h3 _ _ _ sw rs' (RepE.step sw _ _ re3)
    · exact h3.elim
theorem sub_plain {y : Expr} (hy : (match y with | .Slice _ _ _ _ => false | _ => true) = true) : ∀ v, assign (.Subscript x y p1) X.env v = (do
      let ov ← holding [v] (eval x X.env)
      let iv ← holding [v, ov] (eval y X.env)
      standAt p1
      holding [v, ov, iv] (setItem ov iv v)
      release [v, ov, iv] []) := by
  intro v
  first | rfl | (cases y <;> first | rfl | cases hy)
/-! ### the rest -/
theorem s_ex (hn : noComp x = true) (ha : PE X x (tE g X a)) : PS X (.Expr x pos) (tS g X sub (.ex a)) := (ps_expr ha (noComp_swap hn)).mono fun D σ H h => by
  obtain ⟨l, ρ, env, st, rs, re, h⟩ := h
  simp only [evS] at h
  show tE g X a σ H _
  exact tF.run rs re h fun d st1 v ρ1 H1 _ s1 rs1 re1 r1 h1 => h1 _ _ _ Step.refl rs1 re1
theorem s_ret (ha : PE X x (tE g X a)) : PS X (.Return (some x) pos) (tS g X sub (.ret a)) := (ps_ret ha).mono fun D σ H h => by
  obtain ⟨l, ρ, env, st, rs, re, h⟩ := h
  simp only [evS] at h
  show tE g X a σ H _
  exact tF.run rs re h fun d st1 v ρ1 H1 _ s1 rs1 re1 r1 h1 => h1 _ _ _ Step.refl rs1 r1
theorem s_retN : PS X (.Return none pos) (tS g X sub .retN) := ps_retN.mono fun D σ H h => by
  obtain ⟨l, ρ, env, st, rs, re, h⟩ := h
  simp only [evS] at h
  exact h _ _ _ Step.refl rs mk_non
theorem s_brk : PS X (.Break pos) (tS g X sub .brk) := ps_break.mono fun D σ H h => by
  obtain ⟨l, ρ, env, st, rs, re, h⟩ := h
  simp only [evS] at h
  exact h _ _ _ Step.refl rs re
theorem s_cnt : PS X (.Continue pos) (tS g X sub .cnt) := ps_continue.mono fun D σ H h => by
  obtain ⟨l, ρ, env, st, rs, re, h⟩ := h
  simp only [evS] at h
  exact h _ _ _ Step.refl rs re
theorem s_pas : PS X (.Pass pos) (tS g X sub .pas) := ps_pass.mono fun D σ H h => by
  obtain ⟨l, ρ, env, st, rs, re, h⟩ := h
  simp only [evS] at h
  exact h _ _ _ Step.refl rs re
variable {t : T} {A B : Ss} {sa sb : List Stmt}
theorem s_if (ht : PT X x (tT g X t)) (ha : PSs X sa (tSs g X sub A)) (hb : PSs X sb (tSs g X sub B)) : PS X (.If x sa sb pos) (tS g X sub (.ite t A B)) := (ps_if ht ha hb).mono fun D σ H h => by
  obtain ⟨l, ρ, env, st, rs, re, h⟩ := h
  simp only [evS] at h
  show tR g X (fun _ _ _ b k => b = k) (evT g.c t) σ H _
  refine tF.run rs re h fun d st1 v ρ1 H1 _ s1 rs1 re1 r1 h1 => ?_
  subst r1
  cases d with
  | true => exact ⟨l, ρ1, env, st1, rs1, re1, h1⟩
  | false => exact ⟨l, ρ1, env, st1, rs1, re1, h1⟩
/-- a turn, then the rest -/
theorem FOut.turn {D D' : Ends} {f : Fl} {k : List Ev.D → Sto → Fl} (h : FOut g X l ρ H D (f.turn k)) (hr : D'.rt = D.rt) (hb : D'.bk = D.nx)
    (hn : ∀ env st ρ' H' σ', Step ρ H ρ' H' → RelSt (g.k X l) ρ' H' g.M st → RepE (g.k X l) ρ' H' env σ' → FOut g X l ρ' H' D (k env st) → D'.nx σ' H' ∧ D'.ct σ' H') : FOut g X l ρ H D' f := by
  cases f with
  | nx env st => exact fun ρ' H' σ' s rs re => (hn env st ρ' H' σ' s rs re (FOut.step s h)).1
  | ct env st => exact fun ρ' H' σ' s rs re => (hn env st ρ' H' σ' s rs re (FOut.step s h)).2
  | bk env st =>
    intro ρ' H' σ' s rs re
    rw [hb]
    exact h ρ' H' σ' s rs re
  | rt d st =>
    intro v ρ' H' s rs r
    rw [hr]
    exact h v ρ' H' s rs r
  | er _ _ _ _ => exact h
  | no => exact h
theorem s_whl (hp : PassesOwn (model X.prog X.w) X.A X.env X.xe) (ht : PT X x (tT g X t)) (ha : PSs X sa (tSs g X sub A)) : PS X (.While x sa [] pos) (tS g X sub (.whl t A)) := (ps_while hp ht ha).mono fun D σ H h => by
  obtain ⟨l, ρ, env, st, rs, re, h⟩ := h
  simp only [evS] at h
  refine ⟨fun m σ H => ∃ l ρ env st, RelSt (g.k X l) ρ H g.M st ∧ RepE (g.k X l) ρ H env σ ∧ FOut g X l ρ H D (whl (evT g.c t) (evSs g.c sub A) m env st), ⟨many, l, ρ, env, st, rs, re, h⟩, ?_⟩
  rintro m σ H ⟨l, ρ, env, st, rs, re, h⟩
  cases m with
  | zero => exact h.elim
  | succ m =>
    rw [whl] at h
    show tR g X (fun _ _ _ b k => b = k) (evT g.c t) σ H _
    refine tF.run rs re h fun b st1 k ρ1 H1 _ s1 rs1 re1 r1 h1 => ?_
    subst r1
    cases b with
    | false => exact h1 _ _ _ Step.refl rs1 re1
    | true =>
      rw [if_pos rfl]
      refine ⟨_, fun σ' H' w => ⟨m, Nat.lt_succ_self _, w⟩, l, ρ1, env, st1, rs1, re1, ?_⟩
      exact FOut.turn h1 rfl rfl fun env' st' ρ' H' σ' s' rs' re' k => ⟨⟨l, ρ', env', st', rs', re', k⟩, ⟨l, ρ', env', st', rs', re', k⟩⟩
end
end Ev

end
section
set_option Elab.async false
set_option linter.all false
set_option maxRecDepth 100000
set_option autoImplicit false
set_option maxHeartbeats 1000000
/-! EvL: the for loop. -/
namespace Ev
open PySem L2
section
variable {p : Pat} {tb : List D → Sto → Fl}
/-- one loop for all sources -/
def forG (p : Pat) (tb : List D → Sto → Fl) (nx : Sto → Nat → Option (Option D)) : Nat → Nat → List D → Sto → Fl
  | 0, _, _, _ => .no
  | k + 1, i, env, st => (match nx st i with
    | some (some d) => (match bindP p d env with
      | some env' => (tb env' st).turn (forG p tb nx k (i + 1))
      | none => .no)
    | some none => .nx env st
    | none => .no)
theorem forI_eq {ds : List D} : ∀ (r : List D) (i : Nat) (env : List D) (st : Sto), ds.drop i = r → forI p tb r env st = forG p tb (nxt (.its ds)) (r.length + 1) i env st
  | [], i, env, st, h => by
    have : ds[i]? = none := by
      rw [← List.head?_drop, h]
      rfl
    simp only [forI, forG, nxt, this, List.length_nil, Nat.zero_add]
  | d :: r, i, env, st, h => by
    have e : ds[i]? = some d := by
      rw [← List.head?_drop, h]
      rfl
    have h2 : ds.drop (i + 1) = r := by
      rw [← List.drop_drop, h]
      rfl
    have ih : forI p tb r = forG p tb (nxt (.its ds)) (r.length + 1) (i + 1) := by
      funext env st
      exact forI_eq r (i + 1) env st h2
    simp only [forI, List.length_cons]
    rw [forG]
    simp only [nxt, e]
    cases bindP p d env with
    | none => rfl
    | some env' => simp only [ih]
theorem forC_eq {n : Nat} : ∀ (k i : Nat) (env : List D) (st : Sto), forC p tb n k i env st = forG p tb (nxt (.cell n)) k i env st
  | 0, _, _, _ => rfl
  | k + 1, i, env, st => by
    have hk : forC p tb n k (i + 1) = forG p tb (nxt (.cell n)) k (i + 1) := by
      funext env st
      exact forC_eq k (i + 1) env st
    rw [forC, forG]
    cases e : st[n]? with
    | none => simp only [nxt, e]
    | some c =>
      cases c with
      | lst ds =>
        have en : nxt (.cell n) st i = some ds[i]? := by simp only [nxt, e]
        rw [en]
        dsimp only
        cases ds[i]? with
        | none => rfl
        | some d =>
          dsimp only
          cases bindP p d env with
          | none => rfl
          | some env' => simp only [hk]
      | dic _ => simp only [nxt, e]
      | set _ => simp only [nxt, e]
      | ins _ _ => simp only [nxt, e]
end
section
variable {X : L2.Cx} {g : Gc} {σ : L2.St} {H H1 : Hp} {ρ ρ1 : List Addr} {st : Sto} {env : List D} {l : List Addr} {sub : Nat → Nat → Bool} {x tg : Expr} {p : Pat} {pos : Pos} {i : I} {A : Ss} {sa : List Stmt}
theorem s_for (hp : PassesOwn (model X.prog X.w) X.A X.env X.xe) (hc : X.calm = true) (hi : PI X tg x (tI g X i)) (hg : PG X tg (gP X.K p)) (ha : PSs X sa (tSs g X sub A)) (hs : ∀ v, foldedSetIterable x X.env v = pure v) : PS X (.For tg x sa [] pos) (tS g X sub (.for p i A)) :=
  (ps_for hp hc hi hg ha hs).mono fun D σ H h => by
    obtain ⟨l, ρ, env, st, rs, re, h⟩ := h
    simp only [evS] at h
    show tR g X SrcAt (evI g.c i) σ H _
    refine tF.run rs re h fun s st1 J ρ1 H1 _ s1 rs1 re1 sa h1 => ?_
    have h2 : ∃ m, FOut g X l ρ1 H1 D (forG p (evSs g.c sub A) (nxt s) m 0 env st1) := by
      cases s with
      | its ds => exact ⟨ds.length + 1, by rw [← forI_eq ds 0 env st1 rfl]; exact h1⟩
      | cell n => exact ⟨many, by rw [← forC_eq]; exact h1⟩
    obtain ⟨m0, h2⟩ := h2
    refine ⟨fun j m σ H => ∃ ρ env st, RelSt (g.k X l) ρ H g.M st ∧ RepE (g.k X l) ρ H env σ ∧ SrcAt (g.k X l) ρ H s J ∧ FOut g X l ρ H D (forG p (evSs g.c sub A) (nxt s) m j env st), ⟨m0, ρ1, env, st1, rs1, re1, sa, h2⟩, ?_⟩
    rintro j m σ H ⟨ρ, env, st, rs, re, sa, h⟩
    cases m with
    | zero => exact h.elim
    | succ m =>
      rw [forG] at h
      obtain ⟨T1, T2⟩ := sa.turn rs j
      cases en : nxt s st j with
      | none =>
        rw [en] at h
        exact h.elim
      | some o =>
        rw [en] at h
        cases o with
        | none => exact .inl ⟨T1 en, h _ _ _ Step.refl rs re⟩
        | some d =>
          obtain ⟨hj', go, y⟩ := T2 d en
          refine .inr ⟨go, _, fun σ' H' w => ⟨m, Nat.lt_succ_self _, w⟩, fun x H3 yl => ?_⟩
          obtain ⟨s3, rs3, r3⟩ := y x H3 yl
          dsimp only at h
          cases eb : bindP p d env with
          | none =>
            rw [eb] at h
            exact h.elim
          | some env' =>
            rw [eb] at h
            dsimp only at h
            refine bindP_ok p d _ env' x _ _ eb r3 (RepE.step s3 _ _ re) fun σ' re' _ => ⟨l, ρ, env', st, rs3, re', ?_⟩
            exact FOut.turn (FOut.step s3 h) rfl rfl fun env2 st2 ρ' H' σ2 s' rs' re2 k => ⟨⟨ρ', env2, st2, rs', re2, SrcAt.step (s3.trans s') sa, k⟩, ⟨ρ', env2, st2, rs', re2, SrcAt.step (s3.trans s') sa, k⟩⟩
end
end Ev

end
section
set_option Elab.async false
set_option linter.all false
set_option maxRecDepth 100000
set_option autoImplicit false
set_option maxHeartbeats 1000000
/-! EvM: raise; try with clauses that keep the exception's name. -/
namespace Ev
open PySem PySem.Spec PyProof.Rows L2
/-! ### several clauses 'except x as n' -/
abbrev HdA := Value × Nat × (Addr → Value → Option Addr → TS)
def wManyA (K : PySem.W.Frag) (Wout : WX) (D : Ends) : List HdA → WX
  | [] => Wout
  | (c, i, ts) :: r => fun cls d σ H => ∃ b, PySem.W.exmOne K cls c = some b ∧
      (b = true → ∀ a, H a = none → ts a cls d { nx := fun σ' H' => D.nx (σ'.set i none) H', rt := D.rt, bk := fun σ' H' => D.bk (σ'.set i none) H', ct := fun σ' H' => D.ct (σ'.set i none) H' } (σ.set i (some (.ref a))) H) ∧ (b = false → wManyA K Wout D r cls d σ H)
inductive HdsA (X : L2.Cx) : List ExceptHandler → List HdA → Prop
  | nil : HdsA X [] []
  | cons {x n : Str} {c : Value} {i : Nat} {ts : Addr → Value → Option Addr → TS} {b₀ : Stmt} {suite : List Stmt} {np pos' : Pos} {hds : List ExceptHandler} {l : List HdA} (hc : Names X x c) (hi : X.N[i]? = some n) (hln : X.env.kindOf n = some .local)
      (hsu : ∀ (a : Addr) (oe : Obj) (cls : Value) (d : Option Addr) (pn : List (Addr × Obj)), Zc cls d oe → (∃ vs, oe.data = .fields vs) → PSs (X.suite a ((a, oe) :: pn)) (b₀ :: suite) (ts a cls d)) (r : HdsA X hds l) :
      HdsA X (.ExceptHandler (some (.Name x np)) (some n) (b₀ :: suite) pos' :: hds) ((c, i, ts) :: l)
section
variable {X : L2.Cx} {pins : List (Addr × Obj)} {body : List Stmt} {h₀ : ExceptHandler} {hds : List ExceptHandler} {l : List HdA} {pos : Pos} {tb : WX → TS} {Wout : WX}
/-- the exception looks at the clauses, one after the other -/
theorem clauses (hf : X.env.frame = some X.env.locals) (hs : X.stack = X.env :: X.outer) (hN : X.N.Nodup) (tk : Takes X Wout) {D : Ends} {a : Addr} {B : Heap} {sI s' : Shared} {σ' : L2.St} {H' : Hp} {cls : Value} {d : Option Addr} {h3 : Heap} (J : Inv X pins σ' H' sI)
    (nb : ∀ b o, sI.heap.get? b = some o → b ∉ frs X.stack → B.get? b = some o) (up : sI.heap.UpToSlots h3) (os : s'.os = sI.os) (ag : AllBare s'.gens) (na : H' a = none) (fl3 : HandSPX.FlyingZ B (X.env :: X.outer) a (Zc cls d) h3) :
    ∀ {hds' : List ExceptHandler} {l' : List HdA}, HdsA X hds' l' → wManyA X.K Wout D l' cls d σ' H' → wpAny (model X.prog X.w) X.A (handleBy (.ref a) X.env hds') (SP X pins D) X.xe { s' with heap := h3 } := by
  have ok := J.ok
  have J3 : Inv X pins σ' H' { s' with heap := h3 } := J.landed nb fl3.1 up os ag
  obtain ⟨oe3, vs3, he3, hz3, hd3⟩ := fl3.there
  have notFr : ∀ {h : Heap} {o : Obj} {vs : Array Value}, h.FunFrames B (X.env :: X.outer) → h.get? a = some o → o.data = .fields vs → a ∉ frs (X.env :: X.outer) := fun {h o vs} ff e dd hm => by
    obtain ⟨_, o', e', hnf⟩ := ff.mem hm
    rw [e] at e'
    cases e'
    exact hnf _ dd
  have nfr := notFr fl3.2.2.1 he3 hd3
  have nL : a ≠ X.env.locals := fun z => nfr (List.mem_filterMap.mpr ⟨X.env, List.mem_cons_self, by rw [hf, z]⟩)
  have nF : a ∉ X.fs := fun hm => by
    obtain ⟨e, he, q⟩ := List.mem_filterMap.mp hm
    exact nfr (List.mem_filterMap.mpr ⟨e, List.mem_cons_of_mem _ he, q⟩)
  have S3 := J3.suite he3 hd3 na nL nF
  have LT : PySem.W.Looks (model X.prog X.w) h3 (typeOf (.ref a)) cls := fun A Q E s k q => wpAny_typeOf_ref (k _ _ he3) (by rw [hz3.1]; exact q)
  intro hds' l' hk
  induction hk with
  | nil =>
    intro w
    refine wpAny_handleBy_nil ?_
    obtain ⟨k1, k2, k3, oe, vs, T, oT, ts', he, hz, hd, h1, hr⟩ := id fl3
    unfold PySem.passOn
    refine wpAny_bind (wpAny_field he hd h1 ?_)
    rw [if_neg (show ¬ ((Value.ref T == Value.none) = true) from by simp)]
    have fin : wpAny (model X.prog X.w) X.A (setFlight (.ref a) X.env.frame) (fun _ s4 => wpAny (model X.prog X.w) X.A (throw (.ref a) : Sem Flow) (SP X pins D) X.xe s4) X.xe { s' with heap := h3 } := by
      rw [hf]
      refine HandSPX.setFlight_upZ fl3 fun h4 hh4 up4 => wpAny_throw (tk _ _ ?_)
      exact ⟨a, B, sI, pins, σ', H', cls, d, rfl, J, nb, up.trans up4, .inr (.inr (by rw [hs]; exact hh4)), na, os, ag, w⟩
    first
      | exact wpAny_bind (wpAny_pure (wpAny_bind fin))
      | exact wpAny_bind fin
  | @cons x n c i ts b₀ suite np pos' hds2 l2 hc hi hln hsu r ih =>
    intro w
    obtain ⟨b, hb1, hyes, hno⟩ := w
    refine wpAny_handleBy_cons (codeAny_handlers_test ?_) (by intro q; cases q)
    have LM := PySem.W.exm_one (M := model X.prog X.w) J3.kIn LT hb1
    have test : ∀ {Q : Value → Shared → Prop} {E : Value → Shared → Prop}, Q c { s' with heap := h3 } → wpAny (model X.prog X.w) (X.A.mark (some (.ref a))) (eval (.Name x np) X.env) Q E { s' with heap := h3 } := fun {Q E} q => by
      obtain ⟨hg, hdbg, hm | ⟨hm, hv, hnn⟩⟩ := hc
      · exact ld_glob (X := X.suite a ((a, oe3) :: (X.pn ++ pins))) S3 hg hm q hdbg
      · exact ld_blt (X := X.suite a ((a, oe3) :: (X.pn ++ pins))) S3 hg hm hv q hnn hdbg
    refine test (LM.here ?_)
    cases b with
    | true =>
      refine codeAny_handlers_suite_as ?_
      refine HandSPX.lands_againZ fl3 fun h4 fl4 up4 => ?_
      have J4 : Inv X pins σ' H' { s' with heap := h4 } := J.landed nb fl4.1 (up.trans up4) os ag
      obtain ⟨oe4, vs4, he4, hz4, hd4⟩ := fl4.there
      have S4 := J4.suite he4 hd4 na nL nF
      refine store_ok (X := X.suite a ((a, oe4) :: (X.pn ++ pins))) (v := .ref a) S4 hN hi (.inl hln) rfl (fun s5 S5 => ?_) (.inr hln)
      refine wpAny_mono ((hsu a oe4 cls d (X.pn ++ pins) hz4 ⟨_, hd4⟩).run [] s5 _ H' _ S5 (hyes rfl a na)) (fun f s6 hsp => ?_) (fun _ _ z => False.elim z)
      have end_ : ∀ {σ6 : L2.St} {H6 : Hp} {Q : Shared → Prop}, Inv (X.suite a ((a, oe4) :: (X.pn ++ pins))) [] σ6 H6 s6 → (∀ s7, Inv X pins (σ6.set i none) H6 s7 → Q s7) →
          wpAny (model X.prog X.w) X.A (do bindName X.env n .none; unbindBehindTheSuite X.env n pos') (fun _ s7 => Q s7) X.xe s6 := fun {σ6 H6 Q} S6 hq => gone_ok (S6.unsuite ok) hN hi hln hq
      cases f with
      | next =>
        obtain ⟨σ6, H6, S6, q6⟩ := hsp
        exact end_ S6 fun s7 J7 => ⟨_, _, J7, q6⟩
      | brk =>
        obtain ⟨σ6, H6, S6, q6⟩ := hsp
        exact end_ S6 fun s7 J7 => ⟨_, _, J7, q6⟩
      | cont =>
        obtain ⟨σ6, H6, S6, q6⟩ := hsp
        exact end_ S6 fun s7 J7 => ⟨_, _, J7, q6⟩
      | ret u =>
        obtain ⟨v6, σ6, H6, S6, r6, q6⟩ := hsp
        exact end_ S6 fun s7 J7 => ⟨_, _, _, J7, r6, q6⟩
    | false => exact ih (hno rfl)
theorem ps_try_manyA (hs : X.stack = X.env :: X.outer) (hf : X.env.frame = some X.env.locals) (hN : X.N.Nodup) (tk : Takes X Wout)
    (hb : ∀ (W : WX) (pn : List (Addr × Obj)) (xe : Value → Shared → Prop), Takes (X.tr pn xe) W → PassesOwn (model X.prog X.w) X.A X.env xe → PSs (X.tr pn xe) body (tb W))
    (hh : HdsA X (h₀ :: hds) l) : PS X (.Try body (h₀ :: hds) [] [] pos) (fun D σ H => tb (wManyA X.K Wout D l) D σ H) := by
  refine ⟨fun pins s σ H D I h => ?_⟩
  have ok := I.ok
  have hfr : X.A.frames = some (X.env :: X.outer) := by rw [ok.frames, hs]
  refine wpAny_Try_except ?_
  refine wpAny_mono ((hb (wManyA X.K Wout D l) (X.pn ++ pins) (fun e s₁ => wpAny (model X.prog X.w) X.A (noteFrame e X.env) (fun _ s₂ => wpAny (model X.prog X.w) X.A (setFlight e none) (fun _ s₃ =>
    wpAny (model X.prog X.w) X.A (handleBy e X.env (h₀ :: hds)) (SP X pins D) X.xe s₃) X.xe s₂) X.xe s₁) (fun u s' xx => ?_) PassesOwn.looking).run [] s σ H D (I.toTry _) h) (fun f s1 hsp => ?_) (fun e s1 he => he)
  · obtain ⟨a, B, sI, pins', σ', H', cls, d, rfl, J', nb, up, sky, na, os, ag, w⟩ := xx
    have J : Inv X pins σ' H' sI := J'.ofTry ok
    have sky' : Sky B (X.env :: X.outer) a (Zc cls d) X.env.locals s'.heap := by rw [← hs]; exact sky
    show wpAny (model X.prog X.w) X.A (noteFrame (.ref a) X.env) _ _ _
    refine Sky.land Zc.steady hfr hf sky' fun h3 fl3 up3 => ?_
    exact clauses hf hs hN tk J nb (up.trans up3) os ag na fl3 hh w
  · cases f with
    | next =>
      obtain ⟨σ', H', J', q⟩ := hsp
      exact wpAny_execs_nil ⟨σ', H', J'.ofTry ok, q⟩
    | brk =>
      obtain ⟨σ', H', J', q⟩ := hsp
      exact ⟨σ', H', J'.ofTry ok, q⟩
    | cont =>
      obtain ⟨σ', H', J', q⟩ := hsp
      exact ⟨σ', H', J'.ofTry ok, q⟩
    | ret u =>
      obtain ⟨v, σ', H', J', r, q⟩ := hsp
      exact ⟨v, σ', H', J'.ofTry ok, r, q⟩
end
end Ev

end
section
set_option Elab.async false
set_option linter.all false
set_option maxRecDepth 100000
set_option autoImplicit false
set_option maxHeartbeats 1000000
/-! EvN: raise and try over the evaluator. -/
namespace Ev
open PySem PySem.Spec PyProof.Rows L2
/-- what the classes of errors have: sub k k says that k is one of them -/
structure ErrC (K : PySem.W.Frag) (cl : Nat → Addr) (sub : Nat → Nat → Bool) (fI : Addr) : Prop where
  xf : ∀ k, sub k k = true → XfC K (cl k)
  what : ∀ k, sub k k = true → PySem.W.findIn K (.ref (cl k)) "what" = some none
  exm : ∀ k j, sub k k = true → sub j j = true → PySem.W.exmOne K (.ref (cl k)) (.ref (cl j)) = some (sub k j)
  oex : ∀ k, sub k k = true → OexC K (cl k)
  ini : ∀ k, sub k k = true → PySem.W.findIn K (.ref (cl k)) "__init__" = some (some (.ref fI))
  fun_ : PySem.W.typeIn K (.ref fI) = some (.type "function")
/-- what __init__ of an error class does -/
def spInit (K : PySem.W.Frag) : Sp := fun vs H Q _ => ∃ (a C : Addr) (v : V), vs = [.ref a, v] ∧ OexC K C ∧ PySem.W.findIn K (.ref C) "what" = some none ∧ H a = some (exo a C none) ∧ ∀ d, H d = none → d ≠ a → Q .non (upd (upd H d (exd d [("what", v)])) a (exo a C (some d)))
theorem init_ok {CX : CXT} {P : Program} {w : World} {K : PySem.W.Frag} {mg : Str → Option Value} {base : Heap} {k : Nat} {f : Addr} {name qual : Str} {params : Arguments} {scope : Scope} {dV kV doc pm cdv ct oc : Value} {an od : Option Addr}
    {osl : Array (Option Value)} {p1 p2 p3 p4 : Pos} (lk : K.lookup f = some ⟨oc, od, .func (PySem.W.fnOf name qual params [.Assign [.Attribute (.Name "self" p1) "what" p2] (.Name "what" p3) p4] scope dV kV doc pm an cdv ct), osl⟩) (hcd : PySem.W.codeIn K cdv qual = true) (S : FnScope ["self", "what"] ["self", "what"] scope) :
    FnOk P w K mg base CX (k + 1) f (PySem.W.fnOf name qual params [.Assign [.Attribute (.Name "self" p1) "what" p2] (.Name "what" p3) p4] scope dV kV doc pm an cdv ct) ["self", "what"] (spInit K) :=
  fn_of lk hcd S (fun vs H Q E h => by
    obtain ⟨a, C, v, rfl, _⟩ := h
    rfl) fun A outer s H vs Q E hr h => by
    obtain ⟨a, C, v, rfl, T, hno, ha, hq⟩ := h
    have v1 : Vis scope "self" := (S.par "self" (by simp)).elim .inl fun z => .inr (.inl z)
    have v2 : Vis scope "what" := (S.par "what" (by simp)).elim .inl fun z => .inr (.inl z)
    refine ⟨_, pss_one (ps_ost (X := cxOf CX P w K mg base ["self", "what"] qual scope f cdv A outer s H E) (pe_var (i := 0) rfl v1) (pe_var (i := 1) rfl v2)), ?_⟩
    exact ⟨v, rfl, .ref a, rfl, a, C, rfl, T, hno, .inl ⟨ha, fun dx h1 h2 => hq dx h1 h2⟩⟩
section
variable {X : L2.Cx} {g : Gc} {σ : L2.St} {H H1 : Hp} {ρ ρ1 : List Addr} {st : Sto} {env : List D} {l : List Addr} {sub : Nat → Nat → Bool} {a : E} {x : Expr} {pos p1 p2 : Pos}
theorem s_rai {k j : Nat} {n : Str} {fI : Addr} {fd : FuncData} (hc : X.calm = true) (tk : Takes X (fun cls d _ H => g.W cls d H)) (E : ErrC X.K g.cl sub fI) (hk : sub k k = true) (F : FnOk X.prog X.w X.K X.mg X.base (CX X.prog X.w) j fI fd ["self", "what"] (spInit X.K)) (hr : Room (j + 1) X.A) (hb : Binds X.K fd ["self", "what"] [])
    (hg : Gl X n) (hm : X.mg n = some (.ref (g.cl k))) (hd : (n == ("__debug__" : Str)) = false) (hs : noStar [x] = true) (ha : PE X x (tE g X a)) : PS X (.Raise (some (.Call (.Name n p1) [x] [] p2)) none pos) (tS g X sub (.rai k a)) := by
  obtain ⟨h1, h2⟩ := noStar_cons hs X.env
  have hx : Passes (CX X.prog X.w) X (fun _ _ _ => False) := passes_call (takes_none5 (X := { X with xe := fun _ _ => False }) |> fun _ => tk) (fun _ _ _ _ z => z.elim)
  refine (ps_raise hc tk (pmk_oex (E.oex k hk) (E.ini k hk) E.fun_ F hr hb .nil hx hg hm (pa_cons ha pa_nil h1) hd h1 (noStar_plain _ h2))).mono fun D σ H h => ?_
  obtain ⟨l, ρ, env, st, rs, re, h⟩ := h
  simp only [evS] at h
  show tE g X a σ H _
  refine tF.run rs re h fun w st1 v ρ1 H1 _ s1 rs1 re1 r1 h3 => ?_
  refine ⟨by simp, fun b hb => ⟨b, g.cl k, v, rfl, E.oex k hk, E.what k hk, upd_same, fun d hd1 hd2 => ⟨rfl, d, [("what", v)], upd_same, ?_, ?_, ?_⟩⟩⟩
  · rw [upd_ne hd2, upd_same]
  · rwa [upd_ne hd2] at hd1
  · have hd0 : H1 d = none := by rwa [upd_ne hd2] at hd1
    have e : upd (del (upd (upd (upd H1 b (exo b (g.cl k) none)) d (exd d [("what", v)])) b (exo b (g.cl k) (some d))) b) d (.xd [("what", v)]) = upd H1 d (.xd [("what", v)]) := by
      funext c
      by_cases c1 : c = d
      · rw [c1, upd_same, upd_same]
      · rw [upd_ne c1, upd_ne c1]
        by_cases c2 : c = b
        · rw [c2, del_same, hb]
        · rw [del_ne c2, upd_ne c2, upd_ne c1, upd_ne c2]
    rw [e]
    cases hp : w.pure with
    | false =>
      rw [hp] at h3
      exact h3.elim
    | true =>
      rw [hp] at h3
      exact h3 ρ1 _ (Step.new hd0) (rs1.new hd0) d v (rs1.fresh hd0) upd_same (Rep.step (Step.new hd0) _ _ r1)

/-! ### try -/
/-- the wish within the try's body -/
def Gc.wish (g : Gc) (n : Nat) (W : WX) : Gc := { g with W := fun cls d H => ∀ σ : L2.St, σ.length = n → W cls d σ H }
theorem takes_wish {X' : L2.Cx} {W : WX} (h : Takes X' W) : Takes X' (fun cls d _ H => (g.wish X'.N.length W).W cls d H) := fun u s' ⟨a, B, sI, pins, σ, H, cls, d, e, I, nb, up, sky, na, os, ag, w⟩ =>
  h u s' ⟨a, B, sI, pins, σ, H, cls, d, e, I, nb, up, sky, na, os, ag, w σ I.len⟩
/-- the clause's suite: return (tag, n.what) -/
def tTag (X : L2.Cx) (tag : Str) (i : Nat) (a : Addr) (cls : Value) (d : Option Addr) : TS := fun D σ H => ∃ C, cls = .ref C ∧ XfC X.K C ∧ PySem.W.findIn X.K (.ref C) "what" = some none ∧ tRet (tTup (tCons (tC (.str tag)) (tCons (tXf a cls d C "what" (tVar i)) tNil))) D σ H
theorem s_tag {tag n : Str} {i j k : Nat} {p3 p4 p5 p6 p7 : Pos} {ad : Addr} {oe : Obj} {cls : Value} {d : Option Addr} {pn : List (Addr × Obj)} (hN : X.N[i]? = some n) (hv : Vis X.env.scope n) (hd : (n == ("__debug__" : Str)) = false) (hcd : (n == ("__classdict__" : Str)) = false) (hz : Zc cls d oe) (hf : ∃ vs, oe.data = .fields vs) :
    PSs (X.suite ad ((ad, oe) :: pn)) [.Return (some (.Tuple [.Constant (.str tag) j p3, .Attribute (.Name n p4) "what" p5] k p6)) p7] (tTag X tag i ad cls d) := by
  refine ⟨fun pins s σ H D I h => ?_⟩
  obtain ⟨C, e, T, hno, h⟩ := h
  exact (pss_one (ps_ret (pe_tup (pa_cons pe_str (pa_cons (pe_xf T hno hz hf (pe_var hN hv hd hcd)) pa_nil))))).run pins s σ H D I h
/-- the clauses, with the classes' numbers and the tags -/
def hdT (X : L2.Cx) (g : Gc) (i : Nat) : List (Nat × Hd) → List HdA
  | [] => []
  | (k, .tagWhat tag) :: r => (.ref (g.cl k), i, tTag X tag i) :: hdT X g i r
  | (k, .con _) :: r => (.ref (g.cl k), i, fun _ _ _ => tNever) :: hdT X g i r
/-- all the clauses tell a tag, of known classes -/
def tagged (sub : Nat → Nat → Bool) : List (Nat × Hd) → Bool
  | [] => true
  | (k, .tagWhat _) :: r => sub k k && tagged sub r
  | (_, .con _) :: _ => false
theorem m_clauses {fI : Addr} (E : ErrC X.K g.cl sub fI) {D : Ends} {i k : Nat} {w : Ev.D} (hi : i < X.N.length) (hk : sub k k = true) {dx : Addr} {v : V} (hdx : dx ∉ ρ) (e : H dx = some (.xd [("what", v)])) (rw_ : Rep (g.k X l) ρ H w v) (rs : RelSt (g.k X l) ρ H g.M st) {σ : L2.St} (hσ : σ.length = X.N.length) :
    ∀ {hs : List (Nat × Hd)}, tagged sub hs = true → FOut g X l ρ H D (match caught sub k w hs with
      | some d => .rt d st
      | none => .er k w env st) → wManyA X.K (fun cls d _ H => g.W cls d H) D (hdT X g i hs) (.ref (g.cl k)) (some dx) σ H
  | [], _, h => h ρ H Step.refl rs dx v hdx e rw_
  | (j, .con _) :: r, ht, _ => by cases ht
  | (j, .tagWhat tag) :: r, ht, h => by
    obtain ⟨t1, t2⟩ := ba ht
    refine ⟨sub k j, E.exm k j hk t1, fun hb a ha => ?_, fun hb => ?_⟩
    · simp only [caught, hb, cond_true] at h
      refine ⟨g.cl k, rfl, E.xf k hk, E.what k hk, .ref a, by rw [List.getElem?_set_self (by rw [hσ]; exact hi)], rfl, rfl, dx, _, v, rfl, e, ?_, ?_⟩
      · simp [List.lookup]
      · refine ⟨by rw [sizeLine_eq]; show 2 ≤ 16777216; decide, fun p hp => ?_⟩
        exact h _ ρ _ (Step.new hp) (rs.new hp) (Rep.tupNew rs hp (by rw [sizeLine_eq]; show 2 ≤ 16777216; decide) (Reps.cons mk_str (Reps.cons rw_ Reps.nil)))
    · simp only [caught, hb, cond_false] at h
      exact m_clauses E hi hk hdx e rw_ rs hσ t2 h
theorem s_try {fI : Addr} {i : Nat} {b : Ss} {body : List Stmt} {hs : List (Nat × Hd)} {h₀ : ExceptHandler} {hds : List ExceptHandler} (hst : X.stack = X.env :: X.outer) (hf : X.env.frame = some X.env.locals) (hN : X.N.Nodup) (tk : Takes X (fun cls d _ H => g.W cls d H)) (E : ErrC X.K g.cl sub fI) (hi : i < X.N.length) (ht : tagged sub hs = true)
    (hb : ∀ (W : WX) (pn : List (Addr × Obj)) (xe : Value → Shared → Prop), Takes (X.tr pn xe) W → PassesOwn (model X.prog X.w) X.A X.env xe → PSs (X.tr pn xe) body (tSs (g.wish X.N.length W) X sub b)) (hh : HdsA X (h₀ :: hds) (hdT X g i hs)) :
    PS X (.Try body (h₀ :: hds) [] [] pos) (tS g X sub (.try b hs)) :=
  (ps_try_manyA (tb := fun W => tSs (g.wish X.N.length W) X sub b) hst hf hN tk hb hh).mono fun D σ H h => by
    obtain ⟨l, ρ, env, st, rs, re, h⟩ := h
    refine ⟨l, ρ, env, st, rs, re, ?_⟩
    simp only [evS] at h
    show FOut (g.wish X.N.length _) X l ρ H D (evSs g.c sub b env st)
    cases e : evSs g.c sub b env st with
    | nx _ _ =>
      rw [e] at h
      exact h
    | rt _ _ =>
      rw [e] at h
      exact h
    | bk _ _ =>
      rw [e] at h
      exact h
    | ct _ _ =>
      rw [e] at h
      exact h
    | no =>
      rw [e] at h
      exact h
    | er k w env' st' =>
      rw [e] at h
      dsimp only at h
      cases hk : sub k k with
      | false =>
        rw [hk] at h
        exact h.elim
      | true =>
        rw [hk] at h
        simp only [cond_true] at h
        intro ρ' H' s' rs' dx v hdx edx rw_ σ' hσ'
        exact m_clauses E hi hk hdx edx rw_ rs' hσ' ht (FOut.step s' h)
end
end Ev

end
section
set_option Elab.async false
set_option linter.all false
set_option maxRecDepth 100000
set_option autoImplicit false
set_option maxHeartbeats 1000000
/-! EvO: defs by meaning; the check of a term against the text; expressions. -/
namespace Ev
open PySem PySem.Spec PyProof.Rows L2

/-! ### closures -/
/-- no parameter -/
def emptyP : Arguments := ⟨[], [], none, [], [], none, []⟩
/-- the function object f over base is lambda k, made over the slots σm -/
structure CloAt (okl : Nat → List Str → Scope → Expr → Bool) (base : Heap) (f c' : Addr) (k : Nat) (qn : Str) (σm : List (Option V)) : Prop where
  ex : ∃ (N : List Str) (body : Expr) (scope : Scope) (cells : List (Str × Addr)) (pm ctv : Value), okl k N scope body = true ∧ N.Nodup ∧ (scope.kind = .function ∧ scope.isCoroutine = false ∧ scope.isGenerator = false) ∧ (∀ y ∈ scope.names, y.2 ≠ .local ∧ y.2 ≠ .cell) ∧
    base.get? f = some (PySem.W.kla_obj "<lambda>" qn emptyP body scope cells pm c' ctv) ∧ (∀ x y c, cells.lookup x = some c → cells.lookup y = some c → x = y) ∧ (∀ y ∈ scope.names, y.2 = .free → ∃ c, cells.lookup y.1 = some c) ∧
    (∀ x c, cells.lookup x = some c → ∃ v, base.IsCell c v) ∧ (∀ (i : Nat) x v c, N[i]? = some x → σm[i]? = some (some v) → cells.lookup x = some c → ∃ u, RelV v u ∧ base.IsCell c (some u)) ∧ σm.length = N.length
theorem CloAt.mono {okl : Nat → List Str → Scope → Expr → Bool} {base base' : Heap} {f c' : Addr} {k : Nat} {qn : Str} {σm : List (Option V)} (h : CloAt okl base f c' k qn σm) (e : ∀ b o, base.get? b = some o → base'.get? b = some o) : CloAt okl base' f c' k qn σm := by
  obtain ⟨N, body, scope, cells, pm, ctv, h1, h2, h3, h4, h5, h6, h7, h8, h9, h10⟩ := h.ex
  exact ⟨N, body, scope, cells, pm, ctv, h1, h2, h3, h4, e _ _ h5, h6, h7, fun x c q => (h8 x c q).elim fun v z => ⟨v, z.keeps e⟩, fun i x v c q1 q2 q3 => (h9 i x v c q1 q2 q3).elim fun u z => ⟨u, z.1, z.2.keeps e⟩, h10⟩
/-! ### defs by meaning -/
/-- what stays through the whole law: the program, the world, the written part, the module's names, error classes, tables of code objects (with the code objects' addresses; with names), the lambdas' qualified names, the check of a lambda -/
structure Stt where
  P : Program
  w : World
  K : PySem.W.Frag
  mg : Str → Option Value
  cl : Nat → Addr
  TB : List (Addr × Addr)
  T : List (Addr × Str)
  q : Nat → Str
  okl : Nat → List Str → Scope → Expr → Bool
  kw : Addr → List Str → List Nat → Prop
  ps : Addr → List Str
abbrev Stt.fw (S : Stt) : Fw := ⟨S.K, S.P, S.w⟩
abbrev Stt.CB (S : Stt) (base : Heap) (f c' : Addr) (k : Nat) (σ : List (Option V)) : Prop := CloAt S.okl base f c' k (S.q k) σ
abbrev Stt.z (S : Stt) (l : List Addr) (clo : Addr → Addr → Nat → List (Option V) → Prop) : KZ := kz S.fw ⟨l, S.T, S.q, clo⟩
/-- base bears the tables -/
def Stt.Tb (S : Stt) (base : Heap) : Prop := ∀ p ∈ S.TB, LamX.TabB base S.mg p.1 p.2
def ErS (cl : Nat → Addr) (E : XK) (K : KZ) : Nat → D → List Addr → Hp → Prop := fun c w ρ H => ∀ dx v, dx ∉ ρ → H dx = some (.xd [("what", v)]) → Rep K ρ H w v → E (.ref (cl c)) (some dx) H
/-- the evaluator's call, as a promise at an entry over base -/
def spV (S : Stt) (base : Heap) (run : List D → Sto → Rz D) (vs : List V) (H : Hp) (Q : VK) (E : XK) : Prop :=
  ∃ (clo : Addr → Addr → Nat → List (Option V) → Prop) (M : Nat → Prop) (l ρ : List Addr) (st : Sto) (ds : List D), (∀ f c' k σ, clo f c' k σ → S.CB base f c' k σ) ∧ (∀ m, M m → m ≤ st.length) ∧
    RelSt (S.z l clo) ρ H M st ∧ Reps (S.z l clo) ρ H ds vs ∧ Out (S.z l clo) M (Rep (S.z l clo)) (ErS S.cl E (S.z l clo)) ρ H (run ds st) Q
/-- how a call by keywords alone binds: names ks, their values in the parameters' order by perm -/
def KwB (K : PySem.W.Frag) (fd : FuncData) (ps ks : List Str) (perm : List Nat) : Prop := ∀ (s : Shared) (ws as : List Value), K.In s.heap → mapO (fun i => ws[i]?) perm = some as → as.length = ps.length → BindsTo s fd ⟨[], ks.zip ws⟩ (ps.zip as)
structure FnV (S : Stt) (n : Nat) (fa : Addr) (run : List D → Sto → Rz D) : Prop where
  ex : ∃ (fd : FuncData) (ps : List Str), ps = S.ps fa ∧ (∃ (oc : Value) (od : Option Addr) (osl : Array (Option Value)), S.K.lookup fa = some ⟨oc, od, .func fd, osl⟩) ∧ Binds S.K fd ps [] ∧ (∀ ks perm, S.kw fa ks perm → KwB S.K fd ps ks perm) ∧ (∀ ds st, run ds st ≠ .no → ds.length = ps.length) ∧
    ∀ (base : Heap) (A : Around) (outer : List Env) (s : Shared) (H : Hp) (args : Args) (us : List Value) (vs : List V) (Q : VK) (E : XK), Room n A → Env0 S.P S.w S.K S.mg base A outer s H → S.Tb base → BindsTo s fd args (ps.zip us) → Vals vs us → spV S base run vs H Q E →
      codeAny (model S.P S.w) A (.call (.ref fa) args) (CR (CX S.P S.w) outer S.P S.w H s Q E) s
/-- closures by meaning -/
def CloV (S : Stt) (n : Nat) (run : Nat → List D → List D → Sto → Rz D) : Prop := ∀ (k : Nat) (cap : List D) (base : Heap) (f c' : Addr) (σm : List (Option V)) (clo : Addr → Addr → Nat → List (Option V) → Prop) (M : Nat → Prop) (l ρ : List Addr) (st : Sto) (A : Around) (outer : List Env) (s : Shared) (H : Hp) (Q : VK) (E : XK),
  S.CB base f c' k σm → (∀ f c' k σ, clo f c' k σ → S.CB base f c' k σ) → S.Tb base → RelSt (S.z l clo) ρ H M st → RepE (S.z l clo) ρ H cap σm → H c' = some (LamX.CodeO c' (S.q k)) → Room n A → Env0 S.P S.w S.K S.mg base A outer s H →
  Out (S.z l clo) M (Rep (S.z l clo)) (ErS S.cl E (S.z l clo)) ρ H (run k cap [] st) Q → codeAny (model S.P S.w) A (.call (.ref f) ⟨[], []⟩) (CR (CX S.P S.w) outer S.P S.w H s Q E) s
/-- what a context is to a Gc -/
structure XIs (S : Stt) (X : L2.Cx) (g : Gc) : Prop where
  P : X.prog = S.P
  w : X.w = S.w
  K : X.K = S.K
  mg : X.mg = S.mg
  cl : g.cl = S.cl
  T : g.T = S.T
  q : g.q = S.q
  cb : ∀ f c' k σ, g.clo f c' k σ → S.CB X.base f c' k σ
  tb : S.Tb X.base
  tk : Takes X (fun cls d _ H => g.W cls d H)
theorem no_of_out {K : KZ} {M : Nat → Prop} {Er : Nat → D → List Addr → Hp → Prop} {ρ : List Addr} {H : Hp} {r : Rz D} {Q : VK} (h : Out K M (Rep K) Er ρ H r Q) : r ≠ .no := fun e => by
  rw [e] at h
  exact h
/-- behind a call's run -/
theorem back {X : L2.Cx} {E : XK} {pins : List (Addr × Obj)} {s : Shared} {σ : L2.St} {H : Hp} {Q : VK} {f : Value} {us : List Value} {kw : List (Str × Value)} (I : Inv X pins σ H s) (hx : Passes (CX X.prog X.w) X E)
    (q : codeAny (model X.prog X.w) X.A (.call f ⟨us, kw⟩) (CR (CX X.prog X.w) X.stack X.prog X.w H s Q E) s) : wpAny (model X.prog X.w) X.A (PySem.call f us kw) (EP X pins σ Q) X.xe s := by
  refine wpAny_call (codeAny_mono q fun r s' hq => ?_)
  cases r with
  | error e => exact hx pins σ H s e s' I hq
  | ok fl =>
    cases fl with
    | ret u => exact I.after hq
    | next => exact False.elim hq
    | brk => exact False.elim hq
    | cont => exact False.elim hq
/-- a def's call over any base that the state bears -/
theorem FnV.at_ {S : Stt} {X : L2.Cx} {g : Gc} {n : Nat} {fa : Addr} {run : List D → Sto → Rz D} (F : FnV S n fa run) (I0 : XIs S X g) (hr : Room n X.A) {base' : Heap} {clo : Addr → Addr → Nat → List (Option V) → Prop} {l ρ : List Addr} {st : Sto} {ds : List D} {vs : List V} {us : List Value} {Q : VK} {pins : List (Addr × Obj)} {σ : L2.St} {H : Hp} {s : Shared}
    (I : Inv X pins σ H s) (r : Vals vs us) (e0 : Env0 S.P S.w S.K S.mg base' X.A X.stack s H) (hT : S.Tb base') (hcb : ∀ f c' k σ, clo f c' k σ → S.CB base' f c' k σ) (rs : RelSt (S.z l clo) ρ H g.M st) (rd : Reps (S.z l clo) ρ H ds vs)
    (h : Out (S.z l clo) g.M (Rep (S.z l clo)) (ErS S.cl g.W (S.z l clo)) ρ H (run ds st) Q) : wpAny (model X.prog X.w) X.A (PySem.call (.ref fa) us) (EP X pins σ Q) X.xe s := by
  obtain ⟨fd, ps, _, _, hb, _, hl, go_⟩ := F.ex
  have hlen : us.length = ps.length := by
    rw [← r.length, rd.length]
    exact hl ds st (no_of_out h)
  have hx : Passes (CX X.prog X.w) X g.W := passes_call I0.tk (fun _ _ _ _ z => z)
  have kin : S.K.In s.heap := by
    rw [← I0.K]
    exact I.kIn
  refine back I hx ?_
  rw [I0.P, I0.w]
  exact go_ base' X.A X.stack s H ⟨us, []⟩ us vs Q g.W hr e0 hT (by have := hb s us kin (by rw [List.append_nil]; exact hlen); rwa [List.append_nil] at this) r ⟨clo, g.M, l, ρ, st, ds, hcb, fun m hm => (rs.old m hm).1, rs, rd, h⟩
/-- the same, by keywords alone -/
theorem FnV.atK {S : Stt} {X : L2.Cx} {g : Gc} {n : Nat} {fa : Addr} {run : List D → Sto → Rz D} (F : FnV S n fa run) (I0 : XIs S X g) (hr : Room n X.A) {base' : Heap} {clo : Addr → Addr → Nat → List (Option V) → Prop} {l ρ : List Addr} {st : Sto} {ds : List D} {vs : List V} {us ws : List Value} {ks : List Str} {perm : List Nat} {Q : VK} {pins : List (Addr × Obj)} {σ : L2.St} {H : Hp} {s : Shared}
    (I : Inv X pins σ H s) (r : Vals vs us) (hkw : S.kw fa ks perm) (hus : mapO (fun i => ws[i]?) perm = some us) (e0 : Env0 S.P S.w S.K S.mg base' X.A X.stack s H) (hT : S.Tb base') (hcb : ∀ f c' k σ, clo f c' k σ → S.CB base' f c' k σ) (rs : RelSt (S.z l clo) ρ H g.M st) (rd : Reps (S.z l clo) ρ H ds vs)
    (h : Out (S.z l clo) g.M (Rep (S.z l clo)) (ErS S.cl g.W (S.z l clo)) ρ H (run ds st) Q) : wpAny (model X.prog X.w) X.A (PySem.call (.ref fa) [] (ks.zip ws)) (EP X pins σ Q) X.xe s := by
  obtain ⟨fd, ps, _, _, _, hb, hl, go_⟩ := F.ex
  have hlen : us.length = ps.length := by
    rw [← r.length, rd.length]
    exact hl ds st (no_of_out h)
  have hx : Passes (CX X.prog X.w) X g.W := passes_call I0.tk (fun _ _ _ _ z => z)
  have kin : S.K.In s.heap := by
    rw [← I0.K]
    exact I.kIn
  refine back I hx ?_
  rw [I0.P, I0.w]
  exact go_ base' X.A X.stack s H ⟨[], ks.zip ws⟩ us vs Q g.W hr e0 hT (hb ks perm hkw s ws us kin hus hlen) r ⟨clo, g.M, l, ρ, st, ds, hcb, fun m hm => (rs.old m hm).1, rs, rd, h⟩
theorem mapO_vals {zs : List V} {ws : List Value} (r : Vals zs ws) : ∀ {perm : List Nat} {as : List V}, mapO (fun i => zs[i]?) perm = some as → ∃ us, mapO (fun i => ws[i]?) perm = some us ∧ Vals as us
  | [], as, h => by
    cases h
    exact ⟨[], rfl, .nil⟩
  | i :: p, as, h => by
    unfold mapO at h
    cases e : zs[i]? with
    | none => simp [e] at h
    | some v =>
      simp only [e] at h
      cases e2 : mapO (fun i => zs[i]?) p with
      | none =>
        rw [e2] at h
        cases h
      | some vs =>
        rw [e2] at h
        cases h
        obtain ⟨us, e3, r3⟩ := mapO_vals r e2
        obtain ⟨u, e4, r4⟩ := r.get e
        refine ⟨u :: us, ?_, .cons r4 r3⟩
        unfold mapO
        simp only [e4, e3]
theorem mapO_repsK {K : KZ} {ρ : List Addr} {H : Hp} {zs : List D} {ws : List V} (r : Reps K ρ H zs ws) : ∀ {perm : List Nat} {as : List D}, mapO (fun i => zs[i]?) perm = some as → ∃ us, mapO (fun i => ws[i]?) perm = some us ∧ Reps K ρ H as us
  | [], as, h => by
    cases h
    exact ⟨[], rfl, Reps.nil⟩
  | i :: p, as, h => by
    unfold mapO at h
    cases e : zs[i]? with
    | none => simp [e] at h
    | some v =>
      simp only [e] at h
      cases e2 : mapO (fun i => zs[i]?) p with
      | none =>
        rw [e2] at h
        cases h
      | some vs =>
        rw [e2] at h
        cases h
        obtain ⟨us, e3, r3⟩ := mapO_repsK r e2
        obtain ⟨u, e4, r4⟩ := r.get e
        refine ⟨u :: us, ?_, by simp only [Reps]; exact ⟨_, _, rfl, r4, r3⟩⟩
        unfold mapO
        simp only [e4, e3]
theorem XIs.z {S : Stt} {X : L2.Cx} {g : Gc} (I0 : XIs S X g) (l : List Addr) : g.k X l = S.z l g.clo := by
  unfold Gc.k Gc.z Stt.z
  unfold L2.Cx.fw Stt.fw
  rw [I0.K, I0.T, I0.q, I0.P, I0.w]
theorem XIs.env0 {S : Stt} {X : L2.Cx} {g : Gc} (I0 : XIs S X g) {pins : List (Addr × Obj)} {σ : L2.St} {H : Hp} {s : Shared} (I : Inv X pins σ H s) : Env0 S.P S.w S.K S.mg X.base X.A X.stack s H := by
  have e0 := I.env0
  rw [I0.P, I0.w, I0.K, I0.mg] at e0
  exact e0
theorem FnV.call {S : Stt} {X : L2.Cx} {g : Gc} {n f : Nat} {fa : Addr} (F : FnV S n fa (g.c.call f)) (I0 : XIs S X g) (hr : Room n X.A) : CallR X (.ref fa) (rC g X f) := by
  intro pins s σ H vs us Q I r h
  obtain ⟨l, ρ, st, ds, rs, rd, h⟩ := h
  rw [I0.z l] at rs rd h
  refine F.at_ I0 hr I r (I0.env0 I) I0.tb I0.cb rs rd ?_
  unfold ErS
  rw [← I0.cl]
  exact h

/-! ### the check -/
structure Tab where
  fnm : Nat → Option Str
  gnm : Nat → Option Str
  cnm : Nat → Option Str
  lam : Nat → List Str → Scope → Expr → Bool
  kw : Nat → List Str → List Nat → Bool
/-- lk: the lambdas that stand in this def -/
structure Ck where
  N : List Str
  sc : Scope
  fn : Str → Bool
  tb : Tab
  lk : List Nat
def visB (sc : Scope) (x : Str) : Bool := match sc.names.lookup x with
  | some .local => true
  | some .cell => true
  | some .free => true
  | _ => false
theorem visB_ok {sc : Scope} {x : Str} (h : visB sc x = true) : Vis sc x := by
  unfold visB at h
  split at h
  · exact .inl (by assumption)
  · exact .inr (.inl (by assumption))
  · exact .inr (.inr (by assumption))
  · cases h
def glB (sc : Scope) (x : Str) : Bool := match sc.names.lookup x with
  | some .globalImplicit => true
  | _ => false
def okNm (x : Str) : Bool := !(x == "__debug__") && !(x == "__classdict__")
def tyOk (n : String) (m : Str) : Bool := (n == "int" && m == "int") || (n == "bool" && m == "bool") || (n == "str" && m == "str") || (n == "tuple" && m == "tuple") || (n == "list" && m == "list") || (n == "dict" && m == "dict")
def okC (sc : Scope) (d : D) (x : Expr) : Bool := match d with
  | .int i => (match x with
    | .Constant (.int j) _ _ => i == j
    | _ => false)
  | .bl i => (match x with
    | .Constant (.bool j) _ _ => i == j
    | _ => false)
  | .non => (match x with
    | .Constant .none _ _ => true
    | _ => false)
  | .str i => (match x with
    | .Constant (.str j) _ _ => i == j
    | _ => false)
  | .ty n => (match x with
    | .Name m _ => tyOk n m && glB sc m
    | _ => false)
  | _ => false
def notSet : Expr → Bool
  | .Set _ _ _ => false
  | _ => true
theorem notSet_ok {x : Expr} (h : notSet x = true) (env : Env) : ∀ v, foldedSetIterable x env v = pure v := by
  cases x <;> first | (cases h; done) | (intro v; rfl)
def notSlice : Expr → Bool
  | .Slice _ _ _ _ => false
  | _ => true
theorem notSlice_ix {x : Expr} (h : notSlice x = true) : PlainIx x := by
  cases x <;> first | (cases h; done) | (intro o i; rfl)
def notSuper : Expr → Bool
  | .Call (.Name id _) [] [] _ => id != "super"
  | _ => true
theorem notSuper_ok {x : Expr} (h : notSuper x = true) (n : Str) (env : Env) (w : Sem Value) : attributeBase x n env w = w := by
  unfold attributeBase
  split
  · rename_i id _ _
    unfold notSuper at h
    dsimp only at h
    rw [h]
    rfl
  · rfl
def ownOf (N : List Str) (vs : List Nat) : List (Str × Nat) := vs.map fun i => ((N[i]?).getD "", i)
theorem ownOf_snd (N : List Str) (vs : List Nat) : (ownOf N vs).map (·.2) = vs := by
  unfold ownOf
  rw [List.map_map]
  exact List.map_id'' (fun _ => rfl) vs
def Ck.blk (ck : Ck) (scope : Scope) : Ck := { N := ck.N, sc := relS scope ck.sc, fn := fun x => scope.names.lookup x == some .cell, tb := ck.tb, lk := [] }
def locB (ck : Ck) (x : Str) : Bool := match ck.sc.names.lookup x with
  | some .local => true
  | some .cell => ck.fn x
  | _ => false
mutual
def okP (ck : Ck) : Pat → Expr → Bool
  | .name i, x => (match x with
    | .Name n _ => decide (ck.N[i]? = some n) && locB ck n
    | _ => false)
  | .tup ps, x => (match x with
    | .Tuple es _ _ => okPs ck ps es
    | _ => false)
def okPs (ck : Ck) : List Pat → List Expr → Bool
  | [], [] => true
  | p :: ps, e :: es => okP ck p e && okPs ck ps es
  | _, _ => false
end
def noArgs : Arguments → Bool
  | ⟨[], [], none, [], [], none, []⟩ => true
  | _ => false
/-- a lambda of this def -/
def okLam (ck : Ck) (k : Nat) (x : Expr) : Bool := match x with
  | .Lambda params body scope _ => ck.lk.contains k && noArgs params && LamX.lamSB ck.sc scope && ck.tb.lam k ck.N scope body
  | _ => false
def isLamb : E → Option Nat
  | .lamb k => some k
  | _ => none
mutual
def okE : E → Ck → Expr → Bool
  | .var i, ck, x => (match x with
    | .Name n _ => decide (ck.N[i]? = some n) && visB ck.sc n && okNm n
    | _ => false)
  | .con d, ck, x => okC ck.sc d x
  | .glo k, ck, x => (match x with
    | .Name n _ => decide (ck.tb.gnm k = some n) && glB ck.sc n && okNm n
    | _ => false)
  | .bin op a b, ck, x => (match x with
    | .BinOp l o r _ => decide (o = opOf op) && okE a ck l && okE b ck r
    | _ => false)
  | .neg a, ck, x => (match x with
    | .UnaryOp .USub l _ => okE a ck l
    | _ => false)
  | .cmp op a b, ck, x => (match x with
    | .Compare l [o] [r] _ => decide (o = copOf op) && !behindInMarks o r && okE a ck l && okE b ck r
    | _ => false)
  | .chn op op2 a b c, ck, x => (match x with
    | .Compare l [o, o2] [r, r2] _ => decide (o = copOf op) && decide (o2 = copOf op2) && !lastMarks [o, o2] [r, r2] && okE a ck l && okE b ck r && okE c ck r2
    | _ => false)
  | .isN a, ck, x => (match x with
    | .Compare l [.Is] [.Constant .none _ _] _ => okE a ck l
    | _ => false)
  | .notN a, ck, x => (match x with
    | .Compare l [.IsNot] [.Constant .none _ _] _ => okE a ck l
    | _ => false)
  | .and a b, ck, x => (match x with
    | .BoolOp .And [l, r] _ => okE a ck l && okE b ck r
    | .BoolOp .And (l :: r :: r2 :: rest) p => okE a ck l && okE b ck (.BoolOp .And (r :: r2 :: rest) p)
    | _ => false)
  | .or a b, ck, x => (match x with
    | .BoolOp .Or [l, r] _ => okE a ck l && okE b ck r
    | .BoolOp .Or (l :: r :: r2 :: rest) p => okE a ck l && okE b ck (.BoolOp .Or (r :: r2 :: rest) p)
    | _ => false)
  | .not a, ck, x => (match x with
    | .UnaryOp .Not l _ => okE a ck l
    | _ => false)
  | .ite t a b, ck, x => (match x with
    | .IfExp c l r _ => okT t ck c && okE a ck l && okE b ck r
    | _ => false)
  | .ix a b, ck, x => (match x with
    | .Subscript l r _ => notSlice r && okE a ck l && okE b ck r
    | _ => false)
  | .sl a lo hi, ck, x => (match x with
    | .Subscript l (.Slice l1 h1 none _) _ => okE a ck l && (match l1 with
      | none => isNo lo
      | some y => okE lo ck y) && (match h1 with
      | none => isNo hi
      | some y => okE hi ck y)
    | _ => false)
  | .tup es, ck, x => (match x with
    | .Tuple xs _ _ => okEs es ck xs
    | _ => false)
  | .lis l, ck, x => okL l ck x
  | .new l, ck, x => okL l ck x
  | .call f es, ck, x => (match x with
    | .Call (.Name n _) xs [] _ => decide (ck.tb.fnm f = some n) && glB ck.sc n && okNm n && okEs es ck xs
    | _ => false)
  | .callK f es ks perm, ck, x => (match x with
    | .Call (.Name n _) [] kws _ => decide (ck.tb.fnm f = some n) && ck.tb.kw f (kws.filterMap (·.arg)) perm && kws.all (·.arg.isSome) && glB ck.sc n && okNm n && decide (es.len = 0) && okEs ks ck (kws.map (·.value))
    | _ => false)
  | .callL f es, ck, x => (match x with
    | .Call (.Name n _) xs [] _ => decide (ck.tb.fnm f = some n) && !ck.lk.isEmpty && glB ck.sc n && okNm n && !xs.isEmpty && okAs es ck xs
    | _ => false)
  | .bi b es, ck, x => (match x with
    | .Call (.Name n _) xs [] _ => biYes b && decide (n = biNm b) && glB ck.sc n && !xs.isEmpty && okEs es ck xs
    | _ => false)
  | .lenSet e, ck, x => (match x with
    | .Call (.Name n _) [.Call (.Name n2 _) [a] [] _] [] _ => decide (n = ("len" : Str)) && decide (n2 = ("set" : Str)) && glB ck.sc "len" && glB ck.sc "set" && !isStar a && okE e ck a
    | _ => false)
  | .me m o es, ck, x => (match x with
    | .Call (.Attribute y n ap) [] [] p => (decide (m = .pop) || decide (m = .bit_length)) && decide (n = meNm m) && notSuper y && (ap.endLine == p.line) && okE o ck y && okEs es ck []
    | .Call (.Attribute y n ap) [z] [] p => (decide (m = .append) || decide (m = .extend)) && decide (n = meNm m) && notSuper y && (ap.endLine == p.line) && okE o ck y && okEs es ck [z]
    | _ => false)
  | .lamb _, _, _ => false
  | .cal i es, ck, x => (match x with
    | .Call (.Name n _) [] [] _ => decide (ck.N[i]? = some n) && visB ck.sc n && okNm n && decide (es.len = 0)
    | _ => false)
/-- arguments, closures among them -/
def okAs : Es → Ck → List Expr → Bool
  | .nil, _, xs => xs.isEmpty
  | .cons e r, ck, xs => (match xs with
    | x :: ys => !isStar x && (match isLamb e with
      | some k => okLam ck k x
      | none => okE e ck x) && okAs r ck ys
    | [] => false)
def okEs : Es → Ck → List Expr → Bool
  | .nil, _, xs => xs.isEmpty
  | .cons e r, ck, xs => (match xs with
    | x :: ys => !isStar x && okE e ck x && okEs r ck ys
    | [] => false)
def okT : T → Ck → Expr → Bool
  | .of e, ck, x => (match e with
    | .cmp op a b => (match x with
      | .Compare l [o] [r] _ => decide (o = copOf op) && !behindInMarks o r && okE a ck l && okE b ck r
      | _ => false)
    | .chn op op2 a b c => (match x with
      | .Compare l [o, o2] [r, r2] _ => decide (o = copOf op) && decide (o2 = copOf op2) && !lastMarks [o, o2] [r, r2] && okE a ck l && okE b ck r && okE c ck r2
      | _ => false)
    | .isN a => (match x with
      | .Compare l [.Is] [.Constant .none _ _] _ => okE a ck l
      | _ => false)
    | .notN a => (match x with
      | .Compare l [.IsNot] [.Constant .none _ _] _ => okE a ck l
      | _ => false)
    | e => plainT x && okE e ck x)
  | .and a b, ck, x => (match x with
    | .BoolOp .And [l, r] _ => okT a ck l && okT b ck r
    | .BoolOp .And (l :: r :: r2 :: rest) p => okT a ck l && okT b ck (.BoolOp .And (r :: r2 :: rest) p)
    | _ => false)
  | .or a b, ck, x => (match x with
    | .BoolOp .Or [l, r] _ => okT a ck l && okT b ck r
    | .BoolOp .Or (l :: r :: r2 :: rest) p => okT a ck l && okT b ck (.BoolOp .Or (r :: r2 :: rest) p)
    | _ => false)
  | .not a, ck, x => (match x with
    | .UnaryOp .Not l _ => okT a ck l
    | _ => false)
def okL : L → Ck → Expr → Bool
  | .dis es, ck, x => (match x with
    | .List xs _ => okEs es ck xs
    | _ => false)
  | .cmp vs p it e, ck, x => (match x with
    | .ListComp elt [⟨tg, iter, [], 0⟩] scope _ => okI it ck tg iter && notSet iter && blkC ck.N ck.sc scope (ownOf ck.N vs) && slotsIn vs p && okP (ck.blk scope) p tg && okE e (ck.blk scope) elt
    | _ => false)
  | .cmpIf vs p it t e, ck, x => (match x with
    | .ListComp elt [⟨tg, iter, [c], 0⟩] scope _ => okI it ck tg iter && notSet iter && blkC ck.N ck.sc scope (ownOf ck.N vs) && slotsIn vs p && okP (ck.blk scope) p tg && okE e (ck.blk scope) elt && okT t (ck.blk scope) c
    | _ => false)
  | .of e, ck, x => (match x with
    | .Call (.Name n _) [y] [] _ => decide (n = "list") && glB ck.sc n && !isStar y && okE e ck y
    | _ => false)
  | .rep a n, ck, x => (match x with
    | .BinOp l .Mult r _ => okL a ck l && okE n ck r
    | _ => false)
  | .cat a b, ck, x => (match x with
    | .BinOp l .Add r _ => okE a ck l && okE b ck r
    | _ => false)
  | .cut a lo hi, ck, x => (match x with
    | .Subscript l (.Slice l1 h1 none _) _ => okE a ck l && (match l1 with
      | none => isNo lo
      | some y => okE lo ck y) && (match h1 with
      | none => isNo hi
      | some y => okE hi ck y)
    | _ => false)
  | .rev _, _, _ => false
  | .sorted _, _, _ => false
def okI : I → Ck → Expr → Expr → Bool
  | .of e, ck, _, x => okE e ck x
  | .rng es, ck, _, x => (match x with
    | .Call (.Name n _) [y] [] _ => decide (n = "range") && glB ck.sc n && decide (es.len = 1) && okEs es ck [y]
    | .Call (.Name n _) [y, z] [] _ => decide (n = "range") && glB ck.sc n && decide (es.len = 2) && okEs es ck [y, z]
    | _ => false)
  | .enu e, ck, tg, x => (match x with
    | .Call (.Name n _) [y] [] _ => decide (n = "enumerate") && glB ck.sc n && !isStar y && okE e ck y && (match tg with
      | .Tuple _ _ _ => true
      | _ => false)
    | _ => false)
  | .zip _ _, _, _, _ => false
def isNo : E → Bool
  | .con d => (match d with
    | .no => true
    | _ => false)
  | _ => false
end
end Ev

end
section
set_option Elab.async false
set_option linter.all false
set_option maxRecDepth 100000
set_option autoImplicit false
set_option maxHeartbeats 2000000
/-! EvP: what passes the check runs as the evaluator says: expressions. -/
namespace Ev
open PySem PySem.Spec PyProof.Rows L2
def bltL : List Str := ["len", "list", "tuple", "int", "bool", "str", "max", "min", "sum", "any", "all", "sorted", "isinstance", "abs", "set", "dict", "ord", "chr", "range", "enumerate", "zip"]
/-- the lambda k may be made here -/
structure MkOk (S : Stt) (X : L2.Cx) (k : Nat) : Prop where
  ex : ∃ c P, LamX.TabB X.base X.mg c P ∧ X.env.code = .ref c ∧ S.q k = X.env.qual ++ "<lambda>" ∧ (P, S.q k) ∈ S.T ∧ (∀ p ∈ S.T, p.1 = P → p.2 = S.q k)
  stk : X.stack = X.env :: X.outer
  frm : X.env.frame = some X.env.locals
  fn : ∀ x, X.fn x = true
structure XOk (S : Stt) (X : L2.Cx) (g : Gc) (ck : Ck) (n : Nat) : Prop where
  is : XIs S X g
  calm : X.calm = true
  N : X.N = ck.N
  sc : X.env.scope = ck.sc
  fn : ∀ x, ck.fn x = true → X.fn x = true
  nd : ck.N.Nodup
  kind : ck.sc.kind = .function
  room : Room n X.A
  blt : ∀ x ∈ bltL, S.mg x = none
  glo : ∀ k x d, ck.tb.gnm k = some x → g.c.glo k = some d → ∃ v u, S.mg x = some u ∧ RelV v u ∧ Sure S.fw d v
  defs : ∀ f x, ck.tb.fnm f = some x → ∃ fa, S.mg x = some (.ref fa) ∧ PySem.W.keepIn S.K (.ref fa) = true ∧ FnV S n fa (g.c.call f)
  clos : CloV S n g.c.lamb
  lamk : ∀ k ∈ ck.lk, MkOk S X k
  okl : ∀ k N sc b, ck.tb.lam k N sc b = true → S.okl k N sc b = true
  kw : ∀ f x fa ks perm, ck.tb.fnm f = some x → S.mg x = some (.ref fa) → ck.tb.kw f ks perm = true → S.kw fa ks perm
section
variable {S : Stt} {X : L2.Cx} {g : Gc} {ck : Ck} {n : Nat}
theorem XOk.gl (h : XOk S X g ck n) {x : Str} (hb : glB ck.sc x = true) : Gl X x := by
  unfold glB at hb
  show X.env.scope.names.lookup x = _
  rw [h.sc]
  split at hb
  · assumption
  · cases hb
theorem XOk.vis (h : XOk S X g ck n) {x : Str} (hb : visB ck.sc x = true) : Vis X.env.scope x := by
  rw [h.sc]
  exact visB_ok hb
theorem XOk.loc (h : XOk S X g ck n) {x : Str} (hb : locB ck x = true) : Loc X.env.scope x ∧ (X.fn x = true ∨ X.env.scope.names.lookup x = some .local) := by
  unfold locB at hb
  rw [h.sc]
  split at hb
  · rename_i e
    exact ⟨.inl e, .inr e⟩
  · rename_i e
    exact ⟨.inr e, .inl (h.fn _ hb)⟩
  · cases hb
theorem okNm_ok {x : Str} (h : okNm x = true) : (x == ("__debug__" : Str)) = false ∧ (x == ("__classdict__" : Str)) = false := by
  obtain ⟨a, b⟩ := ba h
  exact ⟨by simpa using a, by simpa using b⟩
theorem XOk.un (h : XOk S X g ck n) : X.A.units + 66 < cLine := by
  have := h.room.un
  omega
theorem XOk.bl (h : XOk S X g ck n) {x : Str} (hx : x ∈ bltL) : X.mg x = none := by
  rw [h.is.mg]
  exact h.blt x hx
theorem XOk.blk (h : XOk S X g ck n) {s : Shared} {H : Hp} {scope : Scope} {C : Addr} {cl : List (Str × Addr)} {fp : List Addr} (hk : scope.kind = .function) : XOk S (X.blk s H scope (compEnvC scope cl C X.env) fp) g.nox (ck.blk scope) n where
  is := ⟨h.is.P, h.is.w, h.is.K, h.is.mg, h.is.cl, h.is.T, h.is.q, h.is.cb, h.is.tb, takes_none5⟩
  calm := h.calm
  N := h.N
  sc := by
    show relS scope X.env.scope = _
    rw [h.sc]
    rfl
  fn := fun x hx => hx
  nd := h.nd
  kind := hk
  room := h.room
  blt := h.blt
  glo := h.glo
  defs := h.defs
  clos := h.clos
  lamk := fun k hk => absurd (show k ∈ ([] : List Nat) from hk) (by simp)
  okl := h.okl
  kw := h.kw
theorem decT {p : Prop} [Decidable p] (h : decide p = true) : p := of_decide_eq_true h
mutual
theorem sP : ∀ (p : Pat) (x : Expr), XOk S X g ck n → okP ck p x = true → PG X x (gP X.K p)
  | .name i, x, h, ok => by
    simp only [okP] at ok
    split at ok
    · obtain ⟨a, b⟩ := ba ok
      obtain ⟨c, d⟩ := h.loc b
      simp only [gP]
      exact pg_name (by rw [h.N]; exact h.nd) (by rw [h.N]; exact decT a) c d
    · cases ok
  | .tup ps, x, h, ok => by
    simp only [okP] at ok
    split at ok
    · rename_i es _ _
      obtain ⟨q1, q2, q3⟩ := sPs ps es h ok
      simp only [gP]
      exact pg_tup h.calm q1 q2 q3
    · cases ok
theorem sPs : ∀ (ps : List Pat) (es : List Expr), XOk S X g ck n → okPs ck ps es = true → PGs X es (gPs X.K ps) ∧ (assignEach es X.env).length = pLen ps ∧ (assignEach es X.env).findIdx? (·.1) = none
  | [], [], h, ok => ⟨by simp only [gPs]; exact pgs_nil, rfl, rfl⟩
  | [], _ :: _, _, ok => by simp [okPs] at ok
  | _ :: _, [], _, ok => by simp [okPs] at ok
  | p :: ps, e :: es, h, ok => by
    simp only [okPs] at ok
    obtain ⟨a, b⟩ := ba ok
    have q := sP p e h a
    obtain ⟨q1, q2, q3⟩ := sPs ps es h b
    have hs : isStar e = false := by
      cases p with
      | name i =>
        simp only [okP] at a
        split at a
        · rfl
        · cases a
      | tup ps =>
        simp only [okP] at a
        split at a
        · rfl
        · cases a
    have e1 : assignEach (e :: es) X.env = (false, assign e X.env) :: assignEach es X.env := by
      cases e <;> first | (cases hs; done) | rfl
    refine ⟨?_, ?_, ?_⟩
    · simp only [gPs]
      exact pgs_cons q q1 (by rw [e1]; rfl)
    · rw [e1]
      simp only [List.length_cons, pLen, q2]
    · rw [e1, List.findIdx?_cons]
      simp [q3]
end
theorem tyOk_ok {t : String} {m : Str} (h : tyOk t m = true) : bootBuiltins m = some (.type t) ∧ m ∈ bltL ∧ m ≠ "__name__" ∧ (m == ("__debug__" : Str)) = false := by
  unfold tyOk at h
  simp only [Bool.or_eq_true, Bool.and_eq_true, beq_iff_eq] at h
  rcases h with ((((⟨rfl, rfl⟩ | ⟨rfl, rfl⟩) | ⟨rfl, rfl⟩) | ⟨rfl, rfl⟩) | ⟨rfl, rfl⟩) | ⟨rfl, rfl⟩
  · exact ⟨biNm_boot .int, by decide, by decide, by decide⟩
  · exact ⟨biNm_boot .bool, by decide, by decide, by decide⟩
  · exact ⟨biNm_boot .str, by decide, by decide, by decide⟩
  · exact ⟨biNm_boot .tuple, by decide, by decide, by decide⟩
  · exact ⟨biNm_boot .list, by decide, by decide, by decide⟩
  · exact ⟨biNm_boot .dict, by decide, by decide, by decide⟩
theorem sC {d : D} {x : Expr} (h : XOk S X g ck n) (ok : okC ck.sc d x = true) : PE X x (tE g X (.con d)) := by
  unfold okC at ok
  split at ok
  · split at ok
    · cases eq_of_beq ok
      exact s_sure pe_int fun _ _ _ => mk_int
    · cases ok
  · split at ok
    · cases eq_of_beq ok
      exact s_sure pe_bl fun _ _ _ => mk_bl
    · cases ok
  · split at ok
    · exact s_sure pe_non fun _ _ _ => mk_non
    · cases ok
  · split at ok
    · cases eq_of_beq ok
      exact s_sure pe_str fun _ _ _ => mk_str
    · cases ok
  · split at ok
    · obtain ⟨a, b⟩ := ba ok
      obtain ⟨t1, t2, t3, t4⟩ := tyOk_ok a
      exact s_sure (pe_bltn (v := .ty _) (h.gl b) (h.bl t2) t1 (by first | rfl | exact rfl) t3 t4) fun _ _ _ => mk_ty
    · cases ok
  · cases ok
theorem okEs_noStar : ∀ {es : Es} {xs : List Expr}, okEs es ck xs = true → noStar xs = true
  | .nil, xs, h => by
    simp only [okEs] at h
    cases xs with
    | nil => rfl
    | cons _ _ => cases h
  | .cons e r, xs, h => by
    simp only [okEs] at h
    split at h
    · rename_i x ys
      obtain ⟨a, b⟩ := ba h
      obtain ⟨a1, a2⟩ := ba a
      have q := okEs_noStar b
      cases x <;> first | (cases a1; done) | exact q
    · cases h
theorem one_star {y : Expr} (h : (!isStar y) = true) : noStar [y] = true := by
  cases y <;> first | (cases h; done) | rfl
theorem isNo_ok {e : E} (h : isNo e = true) : e = .con .no := by
  cases e with
  | con d => cases d <;> first | rfl | (simp [isNo] at h)
  | _ => simp [isNo] at h
theorem biNm_in (b : Bi) : biNm b ∈ bltL := by cases b <;> decide
end
end Ev

end
section
set_option Elab.async false
set_option linter.all false
set_option maxRecDepth 100000
set_option autoImplicit false
set_option maxHeartbeats 2000000
/-! EvP2: lambdas as arguments; calls of what was got. -/
namespace Ev
open PySem PySem.Spec PyProof.Rows L2
/-! ### more, fewer closures -/
section
variable {F : Fw} {l : List Addr} {T : List (Addr × Str)} {q : Nat → Str} {c1 c2 : Addr → Addr → Nat → List (Option V) → Prop} {ρ : List Addr} {H : Hp} {M : Nat → Prop} {st : Sto}
mutual
theorem Rep.more (h : ∀ f c' k σ, c1 f c' k σ → c2 f c' k σ) : ∀ (d : D) (v : V), Rep (kz F ⟨l, T, q, c1⟩) ρ H d v → Rep (kz F ⟨l, T, q, c2⟩) ρ H d v
  | .no, _, r => r
  | .non, _, r => r
  | .bl _, _, r => r
  | .int _, _, r => r
  | .str _, _, r => r
  | .tup ds, v, r => by
    simp only [Rep] at r ⊢
    obtain ⟨a, vs, e, t, z, q⟩ := r
    exact ⟨a, vs, e, t, z, Reps.more h ds vs q⟩
  | .lst ds, v, r => by
    simp only [Rep] at r ⊢
    obtain ⟨a, vs, e, t, z, q⟩ := r
    exact ⟨a, vs, e, t, z, Reps.more h ds vs q⟩
  | .set _, _, r => r
  | .scr ds, v, r => by
    simp only [Rep] at r ⊢
    obtain ⟨a, vs, e, t, z, q⟩ := r
    exact ⟨a, vs, e, t, z, Reps.more h ds vs q⟩
  | .dic ks vs, v, r => by
    simp only [Rep] at r ⊢
    obtain ⟨a, xs, us, e, h1, h2, h3, h4, h5, h6, h7⟩ := r
    exact ⟨a, xs, us, e, h1, h2, h3, h4, Reps.more h ks _ h5, h6, Reps.more h vs us h7⟩
  | .ref k, v, r => by
    simp only [Rep] at r ⊢
    exact r
  | .lam k cap, v, r => by
    simp only [Rep] at r ⊢
    obtain ⟨f, c', σ, e, h1, h2, h3, h4, h5⟩ := r
    exact ⟨f, c', σ, e, h _ _ _ _ h1, h2, h3, h4, RepE.more h cap σ h5⟩
  | .fn _, _, r => r
  | .ty _, _, r => r
theorem RepE.more (h : ∀ f c' k σ, c1 f c' k σ → c2 f c' k σ) : ∀ (ds : List D) (σ : List (Option V)), RepE (kz F ⟨l, T, q, c1⟩) ρ H ds σ → RepE (kz F ⟨l, T, q, c2⟩) ρ H ds σ
  | [], _, r => r
  | d :: ds, σ, r => by
    simp only [RepE] at r ⊢
    obtain ⟨o, w, e, h1, h2⟩ := r
    refine ⟨o, w, e, ?_, RepE.more h ds w h2⟩
    rcases h1 with h1 | ⟨v, h1, h3⟩
    · exact .inl h1
    · exact .inr ⟨v, h1, Rep.more h d v h3⟩
theorem Reps.more (h : ∀ f c' k σ, c1 f c' k σ → c2 f c' k σ) : ∀ (ds : List D) (vs : List V), Reps (kz F ⟨l, T, q, c1⟩) ρ H ds vs → Reps (kz F ⟨l, T, q, c2⟩) ρ H ds vs
  | [], _, r => r
  | d :: ds, vs, r => by
    simp only [Reps] at r ⊢
    obtain ⟨v, w, e, h1, h2⟩ := r
    exact ⟨v, w, e, Rep.more h d v h1, Reps.more h ds w h2⟩
end
mutual
/-- without closures, any closures do -/
theorem Rep.any : ∀ (d : D) (v : V), d.nolam = true → Rep (kz F ⟨l, T, q, c1⟩) ρ H d v → Rep (kz F ⟨l, T, q, c2⟩) ρ H d v
  | .no, _, _, r => r
  | .non, _, _, r => r
  | .bl _, _, _, r => r
  | .int _, _, _, r => r
  | .str _, _, _, r => r
  | .tup ds, v, p, r => by
    simp only [D.nolam] at p
    simp only [Rep] at r ⊢
    obtain ⟨a, vs, e, t, z, q⟩ := r
    exact ⟨a, vs, e, t, z, Reps.any ds vs p q⟩
  | .lst ds, v, p, r => by
    simp only [D.nolam] at p
    simp only [Rep] at r ⊢
    obtain ⟨a, vs, e, t, z, q⟩ := r
    exact ⟨a, vs, e, t, z, Reps.any ds vs p q⟩
  | .set _, _, _, r => r
  | .scr ds, v, p, r => by
    simp only [D.nolam] at p
    simp only [Rep] at r ⊢
    obtain ⟨a, vs, e, t, z, q⟩ := r
    exact ⟨a, vs, e, t, z, Reps.any ds vs p q⟩
  | .dic ks vs, v, p, r => by
    simp only [D.nolam] at p
    simp only [Rep] at r ⊢
    obtain ⟨a, xs, us, e, h1, h2, h3, h4, h5, h6, h7⟩ := r
    exact ⟨a, xs, us, e, h1, h2, h3, h4, Reps.any ks _ (ba p).1 h5, h6, Reps.any vs us (ba p).2 h7⟩
  | .ref k, v, _, r => by
    simp only [Rep] at r ⊢
    exact r
  | .lam _ _, _, p, _ => by simp [D.nolam] at p
  | .fn _, _, _, r => r
  | .ty _, _, _, r => r
theorem Reps.any : ∀ (ds : List D) (vs : List V), nolams ds = true → Reps (kz F ⟨l, T, q, c1⟩) ρ H ds vs → Reps (kz F ⟨l, T, q, c2⟩) ρ H ds vs
  | [], _, _, r => r
  | d :: ds, vs, p, r => by
    simp only [nolams] at p
    simp only [Reps] at r ⊢
    obtain ⟨v, w, e, h1, h2⟩ := r
    exact ⟨v, w, e, Rep.any d v (ba p).1 h1, Reps.any ds w (ba p).2 h2⟩
end
mutual
theorem pure_nolam : ∀ d : D, d.pure = true → d.nolam = true
  | .no, _ => rfl | .non, _ => rfl | .bl _, _ => rfl | .int _, _ => rfl | .str _, _ => rfl
  | .tup ds, p => by
    simp only [D.pure] at p
    simp only [D.nolam]
    exact pures_nolams ds p
  | .lst ds, p => by
    simp only [D.pure] at p
    simp only [D.nolam]
    exact pures_nolams ds p
  | .set ds, p => by
    simp only [D.pure] at p
    simp only [D.nolam]
    exact pures_nolams ds p
  | .scr ds, p => by
    simp only [D.pure] at p
    simp only [D.nolam]
    exact pures_nolams ds p
  | .dic ks vs, p => by
    simp only [D.pure] at p
    simp only [D.nolam]
    rw [pures_nolams ks (ba p).1, pures_nolams vs (ba p).2]
    rfl
  | .ref _, _ => rfl
  | .lam _ _, p => by simp [D.pure] at p
  | .fn _, _ => rfl | .ty _, _ => rfl
theorem pures_nolams : ∀ ds : List D, pures ds = true → nolams ds = true
  | [], _ => rfl
  | d :: r, p => by
    simp only [pures] at p
    simp only [nolams]
    rw [pure_nolam d (ba p).1, pures_nolams r (ba p).2]
    rfl
end
theorem RelSt.more (h : ∀ f c' k σ, c1 f c' k σ → c2 f c' k σ) (r : RelSt (kz F ⟨l, T, q, c1⟩) ρ H M st) : RelSt (kz F ⟨l, T, q, c2⟩) ρ H M st where
  old := r.old
  len := r.len
  nd := r.nd
  rsv := r.rsv
  tab := fun p hp => r.tab p hp
  cell := fun n c e => by
    obtain ⟨a, h1, h2⟩ := r.cell n c e
    refine ⟨a, h1, ?_⟩
    cases c with
    | lst ds =>
      obtain ⟨vs, u1, u2, u3⟩ := h2
      exact ⟨vs, u1, u2, Reps.more h _ _ u3⟩
    | dic _ => exact h2
    | set _ => exact h2
    | ins _ _ => exact h2
theorem RelSt.any (p : stL st = true) (r : RelSt (kz F ⟨l, T, q, c1⟩) ρ H M st) : RelSt (kz F ⟨l, T, q, c2⟩) ρ H M st where
  old := r.old
  len := r.len
  nd := r.nd
  rsv := r.rsv
  tab := fun p hp => r.tab p hp
  cell := fun n c e => by
    obtain ⟨a, h1, h2⟩ := r.cell n c e
    refine ⟨a, h1, ?_⟩
    have pc : c.nolam = true := List.all_eq_true.mp p c (List.mem_of_getElem? e)
    cases c with
    | lst ds =>
      obtain ⟨vs, u1, u2, u3⟩ := h2
      exact ⟨vs, u1, u2, Reps.any _ _ (by simpa only [Cell.nolam] using pc) u3⟩
    | dic _ => exact h2
    | set _ => exact h2
    | ins _ _ => exact h2
end
/-! ### the arguments -/
section
variable {S : Stt} {X : L2.Cx} {g : Gc} {ck : Ck} {n : Nat}
/-- closures made here over σ, too -/
def ext (clo : Addr → Addr → Nat → List (Option V) → Prop) (cs : List (Addr × Addr × Nat)) (σ : L2.St) : Addr → Addr → Nat → List (Option V) → Prop := fun f c' k σ' => clo f c' k σ' ∨ ((f, c', k) ∈ cs ∧ σ' = σ)
inductive ArgsOk (S : Stt) (X : L2.Cx) (g : Gc) (ck : Ck) : Es → List Expr → Prop
  | nil : ArgsOk S X g ck .nil []
  | exp {e : E} {r : Es} {x : Expr} {xs : List Expr} (hs : isStar x = false) (h : PE X x (tE g X e)) (t : ArgsOk S X g ck r xs) : ArgsOk S X g ck (.cons e r) (x :: xs)
  | lam {k : Nat} {r : Es} {x : Expr} {xs : List Expr} (h : okLam ck k x = true) (t : ArgsOk S X g ck r xs) : ArgsOk S X g ck (.cons (.lamb k) r) (x :: xs)
/-- a closure that is made here -/
def NewClo (S : Stt) (X : L2.Cx) (pins : List (Addr × Obj)) (p : Addr × Addr × Nat) : Prop := ∃ (body : Expr) (scope : Scope) (pm ctv : Value), S.okl p.2.2 X.N scope body = true ∧ LamX.LamS X.env.scope scope ∧ (p.1, PySem.W.kla_obj "<lambda>" (S.q p.2.2) emptyP body scope (cloFrom X.env.cells scope.names []) pm p.2.1 ctv) ∈ pins ∧ p.1 ∉ frs X.stack
theorem NewClo.mono {pins pins' : List (Addr × Obj)} {p : Addr × Addr × Nat} (s : ∀ x ∈ pins, x ∈ pins') (h : NewClo S X pins p) : NewClo S X pins' p := by
  obtain ⟨body, scope, pm, ctv, h1, h2, h3, h4⟩ := h
  exact ⟨body, scope, pm, ctv, h1, h2, s _ h3, h4⟩
theorem emptyP_of {a : Arguments} (h : noArgs a = true) : a = emptyP := by
  unfold noArgs at h
  split at h
  · rfl
  · cases h
/-- the tables' growth is a step -/
theorem step_ext {ρ : List Addr} {H H1 : Hp} (e : LamX.ExtN H H1) : Step ρ H ρ H1 := ⟨List.prefix_refl _, fun a o h nm nt => ⟨e a o h nt, nm⟩⟩
theorem rel_ext {l : List Addr} {clo : Addr → Addr → Nat → List (Option V) → Prop} {ρ : List Addr} {H H1 : Hp} {M : Nat → Prop} {st : Sto} (rs : RelSt (S.z l clo) ρ H M st) (e : LamX.ExtN H H1) (T : LamX.Tabs S.T H1) : RelSt (S.z l clo) ρ H1 M st where
  old := rs.old
  len := rs.len
  nd := rs.nd
  rsv := fun z hz => ⟨(rs.rsv z hz).1, (rs.rsv z hz).2.elim fun vs h => ⟨vs, e _ _ h (fun _ z => by cases z)⟩⟩
  tab := fun p hp => by
    obtain ⟨ps, h1, h2, h3⟩ := T p hp
    have lstNe : ∀ {a : Addr} {o : HO}, H1 a = some o → (∀ vs, o ≠ .lst vs) → a ∉ ρ ∧ a ∉ l := fun {a o} ha hn => by
      refine ⟨fun m => ?_, fun m => ?_⟩
      · obtain ⟨n, c, _, _, q⟩ := rs.there m
        cases c with
        | lst ds =>
          obtain ⟨vs, u1, _⟩ := q
          have := e _ _ u1 (fun _ z => by cases z)
          rw [ha] at this
          exact hn vs (Option.some.inj this)
        | dic _ => exact q.elim
        | set _ => exact q.elim
        | ins _ _ => exact q.elim
      · obtain ⟨_, vs, u1⟩ := rs.rsv a m
        have := e _ _ u1 (fun _ z => by cases z)
        rw [ha] at this
        exact hn vs (Option.some.inj this)
    refine ⟨(lstNe h1 (fun _ z => by cases z)).1, ps, h1, h2, fun pos cv hc => ?_⟩
    obtain ⟨c, e1, e2⟩ := h3 pos cv hc
    have q := lstNe e2 (fun vs z => by unfold LamX.CodeO at z; cases z)
    exact ⟨c, e1, q.1, q.2, e2⟩
  cell := fun n c q => by
    obtain ⟨a, h1, h2⟩ := rs.cell n c q
    refine ⟨a, h1, ?_⟩
    cases c with
    | lst ds =>
      obtain ⟨vs, u1, u2, u3⟩ := h2
      exact ⟨vs, e _ _ u1 (fun _ z => by cases z), u2, Reps.step (step_ext e) _ _ u3⟩
    | dic _ => exact h2
    | set _ => exact h2
    | ins _ _ => exact h2
theorem tabs_of {l : List Addr} {clo : Addr → Addr → Nat → List (Option V) → Prop} {ρ : List Addr} {H : Hp} {M : Nat → Prop} {st : Sto} (rs : RelSt (S.z l clo) ρ H M st) : LamX.Tabs S.T H := fun p hp => by
  obtain ⟨_, ps, h1, h2, h3⟩ := rs.tab p hp
  refine ⟨ps, h1, h2, fun pos cv hc => ?_⟩
  obtain ⟨c, e1, _, _, e2⟩ := h3 pos cv hc
  exact ⟨c, e1, e2⟩
theorem args_ok (h : XOk S X g ck n) {es : Es} {xs : List Expr} (a : ArgsOk S X g ck es xs) : ∀ (pos : Pos) (pins : List (Addr × Obj)) (s : Shared) (σ : L2.St) (H : Hp) (l ρ : List Addr) (env : List D) (st : Sto) (k : List D → Sto → Rz D) (Q : VK), Inv X pins σ H s → RelSt (S.z l g.clo) ρ H g.M st → RepE (S.z l g.clo) ρ H env σ →
    Out (S.z l g.clo) g.M (Rep (S.z l g.clo)) (ErX g (S.z l g.clo)) ρ H ((evEs g.c es env st).bind k) Q →
    wpAny (model X.prog X.w) X.A (spliced (backTo pos (starEach xs X.env))) (fun us s' => ∃ (vs : List V) (ds : List D) (st' : Sto) (ρ' : List Addr) (H' : Hp) (pins' : List (Addr × Obj)) (cs : List (Addr × Addr × Nat)), evEs g.c es env st = .ok ds st' ∧ (∀ p ∈ pins, p ∈ pins') ∧ Inv X pins' σ H' s' ∧ Vals vs us ∧ Step ρ H ρ' H' ∧
      RelSt (S.z l g.clo) ρ' H' g.M st' ∧ Reps (S.z l (ext g.clo cs σ)) ρ' H' ds vs ∧ ∀ p ∈ cs, NewClo S X pins' p) X.xe s := by
  induction a with
  | nil =>
    intro pos pins s σ H l ρ env st k Q I rs re o
    exact Calls.spliced_nil ⟨[], [], st, ρ, H, pins, [], by simp only [evEs], fun _ z => z, I, .nil, Step.refl, rs, Reps.nil, by simp⟩
  | @exp e r x xs hs he t ih =>
    intro pos pins s σ H l ρ env st k Q I rs re o
    have h1 : starEach (x :: xs) X.env = (false, eval x X.env) :: starEach xs X.env := by cases x <;> first | (cases hs; done) | rfl
    rw [h1]
    show wpAny _ _ (spliced ((false, eval x X.env) :: backTo pos (starEach xs X.env))) _ _ s
    simp only [evEs] at o
    rw [Rz.bind_assoc] at o
    have zk := h.is.z l
    have q := he.run pins s σ H (fun v H1 => ∃ d st1 ρ1, evE g.c e env st = .ok d st1 ∧ Step ρ H ρ1 H1 ∧ RelSt (S.z l g.clo) ρ1 H1 g.M st1 ∧ RepE (S.z l g.clo) ρ1 H1 env σ ∧ Rep (S.z l g.clo) ρ1 H1 d v ∧ Out (S.z l g.clo) g.M (Rep (S.z l g.clo)) (ErX g (S.z l g.clo)) ρ1 H1 (((evEs g.c r env st1).bind fun ds st => .ok (d :: ds) st).bind k) Q) I (by
      rw [← zk] at rs re o ⊢
      exact tR.bindE (f := evE g.c e) rs re o fun d st1 v ρ1 H1 e1 s1 rs1 re1 r1 o1 => ⟨d, st1, ρ1, e1, s1, rs1, re1, r1, o1⟩)
    refine Calls.spliced_cons (thn q fun u s1 ⟨v, H1, I1, r1, d, st1, ρ1, e1, s1', rs1, re1, rd, o1⟩ => ?_)
    rw [Rz.bind_assoc] at o1
    refine thn (ih pos pins s1 σ H1 l ρ1 env st1 _ Q I1 rs1 re1 o1) fun us s2 ⟨vs, ds, st', ρ', H', pins', cs, e2, sub, I2, rv, s2', rs2, rds, hc⟩ => ?_
    refine ⟨v :: vs, d :: ds, st', ρ', H', pins', cs, ?_, sub, I2, .cons r1 rv, s1'.trans s2', rs2, Reps.cons (Rep.more (fun f c' k σ z => .inl z) _ _ (Rep.step s2' _ _ rd)) rds, hc⟩
    simp only [evEs, e1, Rz.bind, e2]
  | @lam j r x xs hl t ih =>
    intro pos pins s σ H l ρ env st k Q I rs re o
    unfold okLam at hl
    split at hl
    · rename_i params body scope lpos
      obtain ⟨hl, l1⟩ := ba hl
      obtain ⟨hl, l2⟩ := ba hl
      obtain ⟨l4, l3⟩ := ba hl
      cases emptyP_of l3
      obtain ⟨⟨c, P, tb, hcode, hq, hm, hu⟩, hst, hfr, _⟩ := h.lamk j (by simpa using l4)
      have L : LamX.LamS X.env.scope scope := by
        rw [h.sc]
        exact LamX.lamS_by l2
      show wpAny _ _ (spliced ((false, eval (.Lambda emptyP body scope lpos) X.env) :: backTo pos (starEach xs X.env))) _ _ s
      rw [hq] at hm hu
      refine Calls.spliced_cons (LamX.lam_make2 I tb hcode hm hu (tabs_of rs) rfl (L.has I.ok) fun f c' pm ctv H1 s1 I1 eN T1 hf hfn hffr hco => ?_)
      have I2 : Inv X (pins ++ [(f, PySem.W.kla_obj "<lambda>" (S.q j) emptyP body scope (cloFrom X.env.cells scope.names []) pm c' ctv)]) σ H1 s1 := by
        refine I1.pins_of fun p hp => ?_
        rcases List.mem_append.mp hp with hp | hp
        · exact I1.pin p (List.mem_append_right _ hp)
        · have e := List.mem_singleton.mp hp
          subst e
          rw [hst] at hffr
          refine ⟨by rw [hq]; exact hf, hfn, fun z => hffr (List.mem_filterMap.mpr ⟨X.env, List.mem_cons_self, by rw [hfr, ← z]⟩), fun z => ?_, fun v z => by cases z⟩
          obtain ⟨e, he, q⟩ := List.mem_filterMap.mp z
          exact hffr (List.mem_filterMap.mpr ⟨e, List.mem_cons_of_mem _ he, q⟩)
      have s1' := step_ext (ρ := ρ) eN
      have rs1 := rel_ext rs eN T1
      simp only [evEs, evE] at o
      rw [Rz.bind_assoc] at o
      have o1 := Out.step s1' o
      replace o1 : Out (S.z l g.clo) g.M (Rep (S.z l g.clo)) (ErX g (S.z l g.clo)) ρ H1 (((evEs g.c r env st).bind fun ds st => .ok (.lam j env :: ds) st).bind k) Q := o1
      rw [Rz.bind_assoc] at o1
      refine thn (ih pos _ s1 σ H1 l ρ env st _ Q I2 rs1 (RepE.step s1' _ _ re) o1) fun us s2 ⟨vs, ds, st', ρ', H', pins', cs, e2, sub, I3, rv, s2', rs2, rds, hc⟩ => ?_
      have co' := s2'.2 c' _ hco (by
        intro m
        obtain ⟨i, cc, _, _, q⟩ := rs1.there m
        cases cc with
        | lst ds =>
          obtain ⟨vs, u1, _⟩ := q
          rw [hco] at u1
          unfold LamX.CodeO at u1
          cases u1
        | dic _ => exact q.elim
        | set _ => exact q.elim
        | ins _ _ => exact q.elim) LamX.codeO_ne
      refine ⟨.ref f :: vs, .lam j env :: ds, st', ρ', H', pins', (f, c', j) :: cs, ?_, fun p hp => sub p (List.mem_append_left _ hp), I3, .cons rfl rv, s1'.trans s2', rs2, Reps.cons ?_ (Reps.more (fun f c' k σ z => ?_) _ _ rds), fun p hp => ?_⟩
      · simp only [evEs, evE, Rz.bind, e2]
      · simp only [Rep]
        refine ⟨f, c', σ, rfl, .inr ⟨List.mem_cons_self, rfl⟩, co'.2, fun m => ?_, by rw [hq]; exact co'.1, ?_⟩
        · obtain ⟨_, vs, u1⟩ := rs2.rsv c' m
          rw [co'.1] at u1
          unfold LamX.CodeO at u1
          cases u1
        · exact RepE.more (fun f c' k σ z => .inl z) _ _ (RepE.step (s1'.trans s2') _ _ re)
      · rcases z with z | ⟨z1, z2⟩
        · exact .inl z
        · exact .inr ⟨List.mem_cons_of_mem _ z1, z2⟩
      · rcases List.mem_cons.mp hp with e | hp
        · subst e
          exact ⟨body, scope, pm, ctv, by rw [h.N]; exact h.okl _ _ _ _ l1, L, sub _ (List.mem_append_right _ (List.mem_singleton.mpr rfl)), hffr⟩
        · exact hc p hp
    · cases hl
end
end Ev

end
section
set_option Elab.async false
set_option linter.all false
set_option maxRecDepth 100000
set_option autoImplicit false
set_option maxHeartbeats 2000000
/-! EvP3: the call of a def with closures; the call of a closure. -/
namespace Ev
open PySem PySem.Spec PyProof.Rows L2
section
variable {S : Stt} {X : L2.Cx} {g : Gc} {ck : Ck} {n : Nat}
/-- a part of a heap, its size kept -/
theorem restrict2 (h : Heap) (p : Addr → Bool) : ∃ G : Heap, (∀ b, p b = true → G.get? b = h.get? b) ∧ (∀ b, p b = false → G.get? b = none) ∧ G.objs.size = h.objs.size := by
  have m1 : ∀ b, b ∈ (List.range h.objs.size).filter (fun b => !p b) → p b = false := fun b hb => by
    have z := (List.mem_filter.mp hb).2
    simpa using z
  have m2 : ∀ b, b < h.objs.size → p b = false → b ∈ (List.range h.objs.size).filter (fun b => !p b) := fun b h1 h2 => List.mem_filter.mpr ⟨List.mem_range.mpr h1, by simp [h2]⟩
  refine ⟨PySem.W.hideAll h ((List.range h.objs.size).filter fun b => !p b), fun b hb => ?_, fun b hb => ?_, PySem.W.hideAll_size _ _⟩
  · cases e : h.get? b with
    | some o => exact PySem.W.hideAll_get _ e fun hm => by rw [m1 b hm] at hb; cases hb
    | none =>
      cases q : (PySem.W.hideAll h ((List.range h.objs.size).filter fun b => !p b)).get? b with
      | none => rfl
      | some o =>
        have z := PySem.W.of_hideAll _ q
        rw [e] at z
        cases z
  · cases q : (PySem.W.hideAll h ((List.range h.objs.size).filter fun b => !p b)).get? b with
    | none => rfl
    | some o =>
      have z := PySem.W.of_hideAll _ q
      rw [PySem.W.hideAll_none _ (m2 b (Heap.lt_size z) hb)] at q
      cases q
theorem Stt.Tb.keeps {base base' : Heap} (t : S.Tb base) (e : ∀ b o, base.get? b = some o → base'.get? b = some o) : S.Tb base' := fun p hp => ⟨(t p hp).code.keeps e, (t p hp).bm.keeps e, (t p hp).gP⟩
/-- the cells of a frame -/
def cellAds (env : Env) : List Addr := env.cells.map (·.2)
theorem cells_of {env : Env} {x : Str} {c : Addr} (h : env.cells.lookup x = some c) : c ∈ cellAds env := List.mem_map.mpr ⟨(x, c), PySem.mem_of_lookup h, rfl⟩
/-- a base that bears the closures made here -/
theorem base_ext (h : XOk S X g ck n) (hst : X.stack = X.env :: X.outer) (hfr : X.env.frame = some X.env.locals) (hfn : ∀ x, X.fn x = true) {pins : List (Addr × Obj)} {σ : L2.St} {H : Hp} {s : Shared} (I : Inv X pins σ H s) {cs : List (Addr × Addr × Nat)} (hc : ∀ p ∈ cs, NewClo S X pins p) :
    ∃ G : Heap, Env0 S.P S.w S.K S.mg G X.A X.stack s H ∧ S.Tb G ∧ ∀ f c' k σ', ext g.clo cs σ f c' k σ' → S.CB G f c' k σ' := by
  classical
  have e0 := h.is.env0 I
  obtain ⟨G, g1, g2, g3⟩ := restrict2 s.heap fun b => (X.base.get? b).isSome || cs.any (fun p => p.1 == b) || decide (∃ x, X.env.cells.lookup x = some b)
  have eb : ∀ b o, X.base.get? b = some o → G.get? b = some o := fun b o e => by
    rw [g1 b (by simp [e])]
    exact I.bk b o e
  have ef : ∀ p ∈ cs, G.get? p.1 = s.heap.get? p.1 := fun p hp => g1 p.1 (by
    have : cs.any (fun q => q.1 == p.1) = true := List.any_eq_true.mpr ⟨p, hp, by simp⟩
    simp [this])
  have ec : ∀ x c, X.env.cells.lookup x = some c → G.get? c = s.heap.get? c := fun x c e => g1 c (by
    have : decide (∃ x, X.env.cells.lookup x = some c) = true := decide_eq_true ⟨x, e⟩
    simp [this])
  have inG : ∀ b o, G.get? b = some o → s.heap.get? b = some o ∧ ((∃ o', X.base.get? b = some o') ∨ (∃ p ∈ cs, p.1 = b) ∨ ∃ x, X.env.cells.lookup x = some b) := fun b o e => by
    cases q : ((X.base.get? b).isSome || cs.any (fun p => p.1 == b) || decide (∃ x, X.env.cells.lookup x = some b)) with
    | false =>
      rw [g2 b q] at e
      cases e
    | true =>
      rw [g1 b q] at e
      refine ⟨e, ?_⟩
      rcases Bool.or_eq_true_iff.mp q with q | q
      · rcases Bool.or_eq_true_iff.mp q with q | q
        · exact .inl (Option.isSome_iff_exists.mp q)
        · obtain ⟨p, hp, hb⟩ := List.any_eq_true.mp q
          exact .inr (.inl ⟨p, hp, eq_of_beq hb⟩)
      · exact .inr (.inr (of_decide_eq_true q))
  have pinOf : ∀ p ∈ cs, ∃ o, s.heap.get? p.1 = some o ∧ H p.1 = none := fun p hp => by
    obtain ⟨body, scope, pm, ctv, _, _, hm, _⟩ := hc p hp
    have z := I.pin _ (List.mem_append_right _ hm)
    exact ⟨_, z.1, z.2.1⟩
  have cellAbove : ∀ x c, X.env.cells.lookup x = some c → c ∉ frs X.stack := fun x c e hm => by
    rw [hst] at hm
    obtain ⟨e1, he, q⟩ := List.mem_filterMap.mp hm
    rcases List.mem_cons.mp he with z | z
    · subst z
      rw [hfr] at q
      exact I.cne x c e (Option.some.inj q).symm
    · have hb : c ∈ X.fs := List.mem_filterMap.mpr ⟨e1, z, q⟩
      obtain ⟨_, o, ho, _⟩ := I.ok.funs.mem hb
      have h1 := I.ok.cab x c (hfn x) e
      exact absurd (Nat.lt_of_lt_of_le (Heap.lt_size ho) h1) (Nat.lt_irrefl _)
  refine ⟨G, ⟨e0.frames, ⟨e0.mod.kin.keeps eb, e0.mod.glob.keeps eb, ?_, e0.mod.nolimit.keeps eb⟩, fun b o e => ?_, Nat.le_of_eq g3, funFrames_none e0.funs fun L hL => ?_, e0.frf, e0.hok, e0.bare⟩, h.is.tb.keeps eb, fun f c' k σ' hcl => ?_⟩
  · obtain ⟨mb, m1, m2⟩ := e0.mod.blt
    exact ⟨mb, m1.keeps eb, m2⟩
  · obtain ⟨q1, q2⟩ := inG b o e
    refine ⟨q1, ?_⟩
    rcases q2 with ⟨o', q2⟩ | ⟨p, hp, rfl⟩ | ⟨x, q2⟩
    · exact (I.bs b o' q2).2
    · exact (pinOf p hp).elim fun o z => z.2
    · exact I.freeC x b q2
  · cases q : G.get? L with
    | none => rfl
    | some o =>
      obtain ⟨_, q2⟩ := inG L o q
      rcases q2 with ⟨o', q2⟩ | ⟨p, hp, rfl⟩ | ⟨x, q2⟩
      · have := (e0.funs.mem hL).1
        rw [q2] at this
        cases this
      · obtain ⟨_, _, _, _, _, _, _, nf⟩ := hc p hp
        exact absurd hL nf
      · exact absurd hL (cellAbove x L q2)
  · rcases hcl with hcl | ⟨hcl, rfl⟩
    · exact (h.is.cb _ _ _ _ hcl).mono eb
    · obtain ⟨body, scope, pm, ctv, ok1, L, hm, nf⟩ := hc _ hcl
      have hfree := L.has I.ok
      have cm : ∀ {y c}, (cloFrom X.env.cells scope.names []).lookup y = some c → X.env.cells.lookup y = some c ∧ (y, NameKind.free) ∈ scope.names := fun {y c} e => by
        rcases cloFrom_mem (PySem.mem_of_lookup e) with hm | ⟨h1, h2⟩
        · cases hm
        · obtain ⟨c1, hc1⟩ := hfree _ h1 rfl
          have hc1 : X.env.cells.lookup y = some c1 := hc1
          have e2 : c = c1 := by
            rw [h2, hc1] <;> rfl
          rw [e2]
          exact ⟨hc1, h1⟩
      have z := I.pin _ (List.mem_append_right _ hm)
      refine ⟨X.N, body, scope, cloFrom X.env.cells scope.names [], pm, ctv, ok1, by rw [h.N]; exact h.nd, ⟨L.kind, L.co, L.gen⟩, L.own, ?_, fun x y c q1 q2 => I.ok.inj x y c (cm q1).1 (cm q2).1, fun y hy e => ?_, fun x c q => ?_, fun i x v c q1 q2 q3 => ?_, I.len⟩
      · rw [ef _ hcl]
        exact z.1
      · have e' : (y.1, NameKind.free) ∈ scope.names := by rw [← e]; exact hy
        exact mem_lookup (cloFrom_has (cells := X.env.cells) (acc := []) e')
      · obtain ⟨v, o, ho, hd⟩ := I.cell x c (cm q).1
        exact ⟨v, o, by rw [ec x c (cm q).1]; exact ho, hd⟩
      · obtain ⟨m, _, hl⟩ := I.loc
        obtain ⟨c1, c2⟩ := cm q3
        have hvis : Vis X.env.scope x := (L.free _ c2 rfl).elim (fun k => .inr (.inl k)) (fun k => .inr (.inr k))
        obtain ⟨u, r, q⟩ := hl i x v q1 q2 hvis
        refine ⟨u, r, ?_⟩
        rcases q with ⟨k', _⟩ | ⟨_, c3, e', o, ho, hd⟩
        · have k' : X.env.scope.names.lookup x = some .local := k'
          rcases L.free _ c2 rfl with k2 | k2 <;> rw [show X.env.scope.names.lookup x = _ from k2] at k' <;> cases k'
        · rw [c1] at e'
          cases e'
          exact ⟨o, by rw [ec x c c1]; exact ho, hd⟩
end
end Ev

end
section
set_option Elab.async false
set_option linter.all false
set_option maxRecDepth 100000
set_option autoImplicit false
set_option maxHeartbeats 2000000
/-! EvP4: f(.., lambda: .., ..); x(); a closure's run. -/
namespace Ev
open PySem PySem.Spec PyProof.Rows L2
section
variable {S : Stt} {X : L2.Cx} {g : Gc} {ck : Ck} {n : Nat}
theorem unpin {pins pins' : List (Addr × Obj)} {σ : L2.St} {H : Hp} {s : Shared} (I : Inv X pins' σ H s) (sub : ∀ p ∈ pins, p ∈ pins') : Inv X pins σ H s := I.pins_of fun p hp => I.pin p (List.mem_append_right _ (sub p hp))
theorem s_callL {f : Nat} {es : Es} {fa : Addr} {nm : Str} {x : Expr} {xs : List Expr} {p pos : Pos} (h : XOk S X g ck n) (F : FnV S n fa (g.c.call f)) (hmk : ∃ k, MkOk S X k) (hg : Gl X nm) (hm : X.mg nm = some (.ref fa)) (hk : PySem.W.keepIn X.K (.ref fa) = true) (hs : noStar (x :: xs) = true) (hd : (nm == ("__debug__" : Str)) = false) (a : ArgsOk S X g ck es (x :: xs)) :
    PE X (.Call (.Name nm p) (x :: xs) [] pos) (tE g X (.callL f es)) := by
  refine ⟨fun pins s σ H Q I hq => ?_⟩
  obtain ⟨k0, mk⟩ := hmk
  obtain ⟨l, ρ, env, st, rs, re, hq⟩ := hq
  rw [h.is.z l] at rs re hq
  simp only [evE] at hq
  obtain ⟨h1, h2⟩ := noStar_cons hs X.env
  refine wpAny_Call_Name_kw (ld_glob I hg hm ?_ hd)
  refine PySem.W.callWith_K (h₀ := X.base) I.ok.mod.kin hk (thn (args_ok h a pos pins s σ H l ρ env st _ Q I rs re hq) fun us s1 ⟨vs, ds, st', ρ', H', pins', cs, e1, sub, I1, rv, s1', rs1, rds, hc⟩ => ⟨I1.kIn, ?_⟩) h1 (noStar_plain _ h2)
  rw [e1] at hq
  have o := Out.step s1' hq
  replace o : Out (S.z l g.clo) g.M (Rep (S.z l g.clo)) (ErX g (S.z l g.clo)) ρ' H' ((g.c.call f ds st').plain) Q := o
  obtain ⟨G, e0, tb, hcb⟩ := base_ext h mk.stk mk.frm mk.fn I1 hc
  have more : ∀ f c' k σ', g.clo f c' k σ' → ext g.clo cs σ f c' k σ' := fun _ _ _ _ z => .inl z
  have q := F.at_ h.is h.room I1 rv e0 tb hcb (rs1.more more) rds (by
    cases e : g.c.call f ds st' with
    | ok d st2 =>
      rw [e] at o
      intro v ρ2 H2 s2 rs2 r2
      simp only [Rz.plain] at o
      cases c : d.pure && stL st2 with
      | false =>
        rw [c] at o
        exact o.elim
      | true =>
        rw [c] at o
        obtain ⟨c1, c2⟩ := ba c
        exact o v ρ2 H2 s2 (rs2.any c2) (Rep.any _ _ (pure_nolam _ c1) r2)
    | er c w st2 =>
      rw [e] at o
      intro ρ2 H2 s2 rs2 dx v hdx edx rw_
      simp only [Rz.plain] at o
      cases cc : w.pure && stL st2 with
      | false =>
        rw [cc] at o
        exact o.elim
      | true =>
        rw [cc] at o
        obtain ⟨c1, c2⟩ := ba cc
        have := o ρ2 H2 s2 (rs2.any c2) dx v hdx edx (Rep.any _ _ (pure_nolam _ c1) rw_)
        rw [← h.is.cl]
        exact this
    | no =>
      rw [e] at o
      exact o.elim)
  exact thn q fun u s2 ⟨v, H2, I2, r2, q2⟩ => ⟨v, H2, unpin I2 sub, r2, q2⟩
theorem FnAt_of {okl : Nat → List Str → Scope → Expr → Bool} {base h : Heap} {f c' : Addr} {k : Nat} {qn : Str} {σm : List (Option V)} (c : CloAt okl base f c' k qn σm) (e : ∀ b o, base.get? b = some o → h.get? b = some o) : PySem.W.FnAt f h := by
  obtain ⟨N, body, scope, cells, pm, ctv, h1, h2, h3, h4, h5, h6⟩ := c.ex
  exact ⟨_, _, _, _, e _ _ h5⟩
/-- x(), x a name of the frame that holds a closure -/
theorem s_cal {i : Nat} {es : Es} {nm : Str} {p pos : Pos} (h : XOk S X g ck n) (hl : es.len = 0) (hN : X.N[i]? = some nm) (hv : Vis X.env.scope nm) (hd : (nm == ("__debug__" : Str)) = false) (hcd : (nm == ("__classdict__" : Str)) = false) : PE X (.Call (.Name nm p) [] [] pos) (tE g X (.cal i es)) := by
  have : es = .nil := by
    cases es with
    | nil => rfl
    | cons _ _ => simp [Es.len] at hl
  subst this
  refine ⟨fun pins s σ H Q I hq => ?_⟩
  obtain ⟨l, ρ, env, st, rs, re, hq⟩ := hq
  simp only [evE, evEs] at hq
  split at hq
  · rename_i k cap e
    obtain ⟨v, e1, r⟩ := RepE.get re e (fun z => by cases z)
    simp only [Rep] at r
    obtain ⟨f, c', σm, rfl, hclo, _, _, hco, rcap⟩ := r
    have cb := h.is.cb _ _ _ _ hclo
    refine wpAny_Call_Name_kw (thn ((pe_var (pos := p) hN hv hd hcd).run pins s σ H (fun v H1 => v = .ref f ∧ H1 = H) I ⟨.ref f, e1, rfl, rfl⟩) fun u s1 ⟨v, H1, I1, r1, q1⟩ => ?_)
    obtain ⟨ev, eH⟩ := q1
    subst ev
    rw [eH] at I1
    obtain rfl : u = Value.ref f := r1
    refine PySem.W.callWith_F0 (FnAt_of cb I1.bk) ?_
    have hx : Passes (CX X.prog X.w) X g.W := passes_call h.is.tk (fun _ _ _ _ z => z)
    refine back I1 hx ?_
    have zk := h.is.z l
    rw [zk] at rs rcap hq
    have q := h.clos k cap X.base f c' σm g.clo g.M l ρ st X.A X.stack s1 H Q g.W cb h.is.cb h.is.tb rs rcap (by
      have := hco
      rw [h.is.q] at this
      exact this) h.room (h.is.env0 I1) (by
        unfold ErS
        rw [← h.is.cl]
        exact hq)
    rw [h.is.P, h.is.w]
    exact q
  · exact hq.elim
/-- the context of a closure's body -/
def lcx (S : Stt) (base : Heap) (N : List Str) (A : Around) (outer : List Env) (s : Shared) (H : Hp) (E : XK) (qn : Str) (scope : Scope) (cells : List (Str × Addr)) (f c' : Addr) : L2.Cx where
  prog := S.P
  w := S.w
  K := S.K
  mg := S.mg
  base := base
  A := A.deeper (PySem.W.envX qn scope s.heap.objs.size f (.ref c') cells)
  N := N
  s_0 := s
  H_0 := H
  env := PySem.W.envX qn scope s.heap.objs.size f (.ref c') cells
  outer := outer
  stack := PySem.W.envX qn scope s.heap.objs.size f (.ref c') cells :: outer
  ex := []
  fn := fun _ => false
  calm := true
  pn := []
  xe := fun e s' => wpAny (model S.P S.w) (A.deeper (PySem.W.envX qn scope s.heap.objs.size f (.ref c') cells)) (leaving (PySem.W.envX qn scope s.heap.objs.size f (.ref c') cells) e) (fun _ s'' => L2.CX S.P S.w outer H s E e s'') (fun e' s'' => L2.CX S.P S.w outer H s E e' s'') s'
/-- a closure's run, by its body's reading -/
theorem clo_run {base : Heap} {f c' : Addr} {k : Nat} {σm : List (Option V)} {A : Around} {outer : List Env} {s : Shared} {H : Hp} {Q : VK} {E : XK} (cb : S.CB base f c' k σm) (hco : H c' = some (LamX.CodeO c' (S.q k))) (hr : Room (n + 1) A) (e0 : Env0 S.P S.w S.K S.mg base A outer s H)
    (hbody : ∀ (N : List Str) (body : Expr) (scope : Scope) (cells : List (Str × Addr)), S.okl k N scope body = true → N.Nodup → scope.kind = .function → Room n (A.deeper (PySem.W.envX (S.q k) scope s.heap.objs.size f (.ref c') cells)) → ∃ t, PE (lcx S base N A outer s H E (S.q k) scope cells f c') body t ∧ t σm H Q) :
    codeAny (model S.P S.w) A (.call (.ref f) ⟨[], []⟩) (CR (CX S.P S.w) outer S.P S.w H s Q E) s := by
  obtain ⟨N, body, scope, cells, pm, ctv, ok1, nd, ⟨k1, k2, k3⟩, own, hf, inj, has, cell, val, len⟩ := cb.ex
  have of1 : s.heap.get? f = some (PySem.W.kla_obj "<lambda>" (S.q k) emptyP body scope cells pm c' ctv) := (e0.bs _ _ hf).1
  obtain ⟨⟨oc, vs, t, hoc, hdc, hvc⟩, _, _⟩ := e0.hok c' _ hco
  have lim : s.heap.NoLimit := e0.mod.nolimit.keeps fun b o e => (e0.bs b o e).1
  refine PySem.W.kla_callFunE hr.depth of1 rfl k2 k3 rfl ⟨c', oc, vs, t, rfl, hoc, hdc, hvc⟩ ?_
  have hbind : bindArgs (PySem.W.kla_fn "<lambda>" (S.q k) emptyP body scope cells pm (.ref c') ctv) ⟨[], []⟩ = pure [] := by rfl
  rw [hbind]
  refine wpAny_pure (wpAny_newFunctionEnv (fun y hy => (own y hy).2) (fun y hy => absurd hy (by simp)) (fun h₁ hns hsb => ⟨lim.fresh _ hsb, ?_⟩) k1)
  show codeAny _ _ (.expr body (PySem.W.envX (S.q k) scope s.heap.objs.size f (.ref c') cells)) _ _
  have kp : ∀ b o, s.heap.get? b = some o → h₁.get? b = some o := fun b o e => hsb.extBut b o (Nat.ne_of_lt (Heap.lt_size e)) (Heap.get?_push_of_some _ e)
  have noA : ∀ b : Addr, b ∉ (lcx S base N A outer s H E (S.q k) scope cells f c').ex := fun b z => absurd (show b ∈ ([] : List Addr) from z) (by simp)
  have cellS : ∀ {c : Addr} {v : Option Value}, base.IsCell c v → s.heap.IsCell c v ∧ H c = none := fun {c v} ⟨o, ho, hd⟩ => ⟨⟨o, (e0.bs c o ho).1, hd⟩, (e0.bs c o ho).2⟩
  have J : Inv (lcx S base N A outer s H E (S.q k) scope cells f c') [] σm H { s with heap := h₁, toks := s.toks + ([] : List (Str × Value)).length } := by
    refine ⟨⟨e0.mod, k1, rfl, rfl, Nat.le_refl _, fun y z c e1 e2 => inj y z c e1 e2, fun y hy => ?_, fun y c z _ => ?_, fun _ => hr.hd, Around.frames_deeper e0.frames, .inr ⟨rfl, rfl⟩, fun b z => absurd z (noA b), e0.bs, e0.bsz, fun b _ _ => noA b,
        fun b z => absurd z (noA b), e0.funs, e0.frf⟩,
      rfl, e0.bare, Un.kept kp, ⟨_, hns, fun i y v e1 e2 e3 => ?_⟩, fun y c e => ?_, e0.hok.fresh (Nat.le_refl _), fun y c e => ?_, fun q hq => absurd (show q ∈ ([] : List (Addr × Obj)) ++ [] from hq) (by simp), e0.hok.kept kp, len⟩
    · have hy : scope.names.lookup y = some .cell ∨ scope.names.lookup y = some .free := hy
      rcases hy with hy | hy
      · exact absurd rfl (own _ (PySem.mem_of_lookup hy)).2
      · exact has _ (PySem.mem_of_lookup hy) rfl
    · have z : false = true := z
      cases z
    · have e3 : Vis scope y := e3
      rcases e3 with k | k | k
      · exact absurd rfl (own _ (PySem.mem_of_lookup k)).1
      · exact absurd rfl (own _ (PySem.mem_of_lookup k)).2
      · obtain ⟨c2, h2⟩ := has _ (PySem.mem_of_lookup k) rfl
        obtain ⟨u, r, z⟩ := val i y v c2 e1 e2 h2
        exact ⟨u, r, .inr ⟨.inr k, c2, h2, (cellS z).1.keeps kp⟩⟩
    · obtain ⟨v, z⟩ := cell y c e
      exact ⟨v, (cellS z).1.keeps kp⟩
    · obtain ⟨v, z⟩ := cell y c e
      exact (cellS z).2
  obtain ⟨tt, pe, hq⟩ := hbody N body scope cells ok1 nd k1 (hr.deeper _)
  refine PySem.W.kla_codeExpr (wpAny_mono (pe.run [] _ _ H Q J hq) (fun v s' hq => ?_) fun e s' hq => hq)
  obtain ⟨w', H', J', rv, q⟩ := hq
  exact ⟨w', H', J'.os, J'.bare, J'.base, J'.hok, rv, q⟩
end
end Ev

end
section
set_option Elab.async false
set_option linter.all false
set_option maxRecDepth 100000
set_option autoImplicit false
set_option maxHeartbeats 1000000
/-! EvP5: calls by keywords alone. -/
namespace Ev
open PySem L2
section
variable {S : Stt} {X : L2.Cx} {g : Gc} {n : Nat}
theorem es_nil : ∀ {es : Es}, es.len = 0 → es = .nil
  | .nil, _ => rfl
  | .cons _ _, h => by simp [Es.len] at h
theorem okNm_d {x : Str} (h : okNm x = true) : (x == ("__debug__" : Str)) = false := (okNm_ok h).1
theorem kw_names {pos : Pos} {env : Env} : ∀ {kws : List Keyword}, (backToKw pos (keywordEach kws env)).filterMap (·.1) = kws.filterMap (·.arg)
  | [] => rfl
  | ⟨a, e, p⟩ :: r => by
    have ih := kw_names (pos := pos) (env := env) (kws := r)
    simp only [backToKw, keywordEach, List.map_cons, List.filterMap_cons] at ih ⊢
    cases a with
    | none => simpa using ih
    | some z => simpa using ih
theorem kw_all {pos : Pos} {env : Env} : ∀ {kws : List Keyword}, kws.all (·.arg.isSome) = true → (backToKw pos (keywordEach kws env)).all (·.1.isSome) = true ∧ (backToKw pos (keywordEach kws env)).any (·.1.isNone) = false
  | [], _ => ⟨rfl, rfl⟩
  | ⟨a, e, p⟩ :: r, h => by
    simp only [List.all_cons, Bool.and_eq_true] at h
    obtain ⟨i1, i2⟩ := kw_all (pos := pos) (env := env) h.2
    cases a with
    | none => exact absurd h.1 (by simp)
    | some z =>
      constructor
      · simpa [backToKw, keywordEach] using i1
      · simpa [backToKw, keywordEach] using i2
theorem sk_nil : PK X [] (tEs g X .nil) := ⟨fun pos pins s σ H Q I h => pk_nil.run pos pins s σ H Q I (by
  obtain ⟨l, ρ, env, st, rs, re, h⟩ := h
  simp only [evEs] at h
  exact Out.val h rs Reps.nil)⟩
theorem sk_cons {k : Keyword} {kws : List Keyword} {a : E} {es : Es} (ha : PE X k.value (tE g X a)) (hb : PK X kws (tEs g X es)) : PK X (k :: kws) (tEs g X (.cons a es)) := by
  obtain ⟨nm, x, kp⟩ := k
  refine ⟨fun pos pins s σ H Q I h => (pk_cons ha hb).run pos pins s σ H Q I ?_⟩
  obtain ⟨l, ρ, env, st, rs, re, h⟩ := h
  simp only [evEs] at h
  refine tR.bind rs re h fun d st1 v ρ1 H1 s1 rs1 re1 r1 h1 => ?_
  refine tR.bind rs1 re1 h1 fun d2 st2 v2 ρ2 H2 s2 rs2 re2 r2 h2 => ?_
  exact Out.val h2 rs2 (Reps.cons (Rep.step s2 _ _ r1) r2)
theorem s_callK0 {f : Nat} {ks : Es} {perm : List Nat} {fa : Addr} {nm : Str} {kws : List Keyword} {p pos : Pos} (F : FnV S n fa (g.c.call f)) (I0 : XIs S X g) (hr : Room n X.A) (hg : Gl X nm) (hm : X.mg nm = some (.ref fa)) (hk : PySem.W.keepIn X.K (.ref fa) = true) (hd : (nm == ("__debug__" : Str)) = false)
    (hkw : S.kw fa (kws.filterMap (·.arg)) perm) (ha : kws.all (·.arg.isSome) = true) (hp : PK X kws (tEs g X ks)) : PE X (.Call (.Name nm p) [] kws pos) (tE g X (.callK f .nil ks perm)) := by
  refine ⟨fun pins s σ H Q I h => ?_⟩
  refine wpAny_Call_Name_kw (ld_glob I hg hm ?_ hd)
  obtain ⟨k1, k2⟩ := kw_all (pos := pos) (env := X.env) ha
  refine PySem.W.callWith_KW0 (h₀ := X.base) I.ok.mod.kin hk k1 ?_ (by rw [k2]; rfl)
  obtain ⟨l, ρ, env, st, rs, re, h⟩ := h
  simp only [evE, evEs] at h
  replace h : Out (g.k X l) g.M (Rep (g.k X l)) (ErX g (g.k X l)) ρ H ((evEs g.c ks env st).bind fun zs st => (match mapO (fun i => (([] : List D) ++ zs)[i]?) perm with
    | some as => g.c.call f as st
    | none => .no)) Q := h
  refine thn (hp.run pos pins s σ H (fun zs H1 => ∃ l ρ1 st1 ds, RelSt (g.k X l) ρ1 H1 g.M st1 ∧ Reps (g.k X l) ρ1 H1 ds zs ∧ Out (g.k X l) g.M (Rep (g.k X l)) (ErX g (g.k X l)) ρ1 H1 (match mapO (fun i => (([] : List D) ++ ds)[i]?) perm with
    | some as => g.c.call f as st1
    | none => .no) Q) I (m_args (f := fun st1 zs => (match mapO (fun i => (([] : List D) ++ zs)[i]?) perm with
    | some as => g.c.call f as st1
    | none => .no)) rs re h fun ds st1 vs ρ1 H1 s1 rs1 r1 h1 => ⟨_, ρ1, st1, ds, rs1, r1, h1⟩)) fun ws s2 ⟨zs, H2, I2, rz, q2⟩ => ⟨I2.kIn, ?_⟩
  obtain ⟨l, ρ1, st1, ds, rs1, rd, h1⟩ := q2
  rw [kw_names]
  simp only [List.nil_append] at h1
  cases e : mapO (fun i => ds[i]?) perm with
  | none =>
    rw [e] at h1
    exact h1.elim
  | some as =>
    rw [e] at h1
    obtain ⟨vas, e2, ra⟩ := mapO_repsK rd e
    obtain ⟨us, e3, ru⟩ := mapO_vals rz e2
    replace h1 : Out (g.k X l) g.M (Rep (g.k X l)) (ErX g (g.k X l)) ρ1 H2 (g.c.call f as st1) Q := h1
    rw [I0.z l] at rs1 ra h1
    refine F.atK I0 hr I2 ru hkw e3 (I0.env0 I2) I0.tb I0.cb rs1 ra ?_
    unfold ErS
    rw [← I0.cl]
    exact h1
end
end Ev

end
section
set_option Elab.async false
set_option linter.all false
set_option maxRecDepth 100000
set_option autoImplicit false
set_option maxHeartbeats 4000000
/-! EvQ: the theorem on expressions. -/
namespace Ev
open PySem PySem.Spec PyProof.Rows L2
section
variable {S : Stt} {n : Nat}
theorem nb {b : Bool} (h : (!b) = true) : b = false := by simpa using h
theorem lk_ok {X : L2.Cx} {g : Gc} {ck : Ck} (h : XOk S X g ck n) (q : (!ck.lk.isEmpty) = true) : ∃ k, MkOk S X k := by
  cases e : ck.lk with
  | nil =>
    rw [e] at q
    cases q
  | cons k r => exact ⟨k, h.lamk k (by rw [e]; exact List.mem_cons_self)⟩
theorem isLamb_ok {e : E} {k : Nat} (h : isLamb e = some k) : e = .lamb k := by
  unfold isLamb at h
  split at h
  · cases h
    rfl
  · cases h
theorem okAs_noStar {ck : Ck} : ∀ {es : Es} {xs : List Expr}, okAs es ck xs = true → noStar xs = true
  | .nil, xs, h => by
    simp only [okAs] at h
    cases xs with
    | nil => rfl
    | cons _ _ => cases h
  | .cons e r, xs, h => by
    simp only [okAs] at h
    split at h
    · rename_i x ys
      obtain ⟨a, b⟩ := ba h
      obtain ⟨a1, a2⟩ := ba a
      have q := okAs_noStar b
      cases x <;> first | (cases a1; done) | exact q
    · cases h
mutual
theorem sE : ∀ (e : E) (ck : Ck) (x : Expr) (X : L2.Cx) (g : Gc), XOk S X g ck n → okE e ck x = true → PE X x (tE g X e)
  | .var i, ck, x, X, g, h, ok => by
    simp only [okE] at ok
    split at ok
    · obtain ⟨a, b⟩ := ba ok
      obtain ⟨a1, a2⟩ := ba a
      obtain ⟨b1, b2⟩ := okNm_ok b
      exact s_var (by rw [h.N]; exact decT a1) (h.vis a2) b1 b2
    · cases ok
  | .con d, ck, x, X, g, h, ok => by
    simp only [okE] at ok
    exact sC h ok
  | .glo k, ck, x, X, g, h, ok => by
    simp only [okE] at ok
    split at ok
    · obtain ⟨a, b⟩ := ba ok
      obtain ⟨a1, a2⟩ := ba a
      obtain ⟨b1, b2⟩ := okNm_ok b
      cases e : g.c.glo k with
      | none =>
        refine ⟨fun pins s σ H Q I hq => ?_⟩
        obtain ⟨l, ρ, env, st, rs, re, hq⟩ := hq
        simp only [evE, e] at hq
        exact hq.elim
      | some d =>
        obtain ⟨v, u, e1, e2, e3⟩ := h.glo k _ d (decT a1) e
        exact s_glo (pe_glob (h.gl a2) (by rw [h.is.mg]; exact e1) e2 b1) e (by rw [show X.fw = S.fw from by unfold L2.Cx.fw Stt.fw; rw [h.is.K, h.is.P, h.is.w]]; exact e3)
    · cases ok
  | .bin op a b, ck, x, X, g, h, ok => by
    simp only [okE] at ok
    split at ok
    · obtain ⟨a1, a2⟩ := ba ok
      obtain ⟨a3, a4⟩ := ba a1
      cases decT a3
      exact s_bin (sE a ck _ X g h a4) (sE b ck _ X g h a2)
    · cases ok
  | .neg a, ck, x, X, g, h, ok => by
    simp only [okE] at ok
    split at ok
    · exact s_neg (sE a ck _ X g h ok)
    · cases ok
  | .cmp op a b, ck, x, X, g, h, ok => by
    simp only [okE] at ok
    split at ok
    · obtain ⟨a1, a2⟩ := ba ok
      obtain ⟨a3, a4⟩ := ba a1
      obtain ⟨a5, a6⟩ := ba a3
      cases decT a5
      exact s_cmp h.un (nb a6) (sE a ck _ X g h a4) (sE b ck _ X g h a2)
    · cases ok
  | .chn op op2 a b c, ck, x, X, g, h, ok => by
    simp only [okE] at ok
    split at ok
    · obtain ⟨a1, a2⟩ := ba ok
      obtain ⟨a3, a4⟩ := ba a1
      obtain ⟨a5, a6⟩ := ba a3
      obtain ⟨a7, a8⟩ := ba a5
      obtain ⟨a9, a10⟩ := ba a7
      cases decT a9
      cases decT a10
      exact s_chn h.un (nb a8) (sE a ck _ X g h a6) (sE b ck _ X g h a4) (sE c ck _ X g h a2)
    · cases ok
  | .isN a, ck, x, X, g, h, ok => by
    simp only [okE] at ok
    split at ok
    · exact s_isN (sE a ck _ X g h ok)
    · cases ok
  | .notN a, ck, x, X, g, h, ok => by
    simp only [okE] at ok
    split at ok
    · exact s_notN (sE a ck _ X g h ok)
    · cases ok
  | .and a b, ck, x, X, g, h, ok => by
    simp only [okE] at ok
    split at ok
    · obtain ⟨a1, a2⟩ := ba ok
      exact s_and (sE a ck _ X g h a1) (pe_one (sE b ck _ X g h a2))
    · obtain ⟨a1, a2⟩ := ba ok
      exact s_and (sE a ck _ X g h a1) (sE b ck _ X g h a2)
    · cases ok
  | .or a b, ck, x, X, g, h, ok => by
    simp only [okE] at ok
    split at ok
    · obtain ⟨a1, a2⟩ := ba ok
      exact s_or (sE a ck _ X g h a1) (pe_one (sE b ck _ X g h a2))
    · obtain ⟨a1, a2⟩ := ba ok
      exact s_or (sE a ck _ X g h a1) (sE b ck _ X g h a2)
    · cases ok
  | .not a, ck, x, X, g, h, ok => by
    simp only [okE] at ok
    split at ok
    · exact s_not (sE a ck _ X g h ok)
    · cases ok
  | .ite t a b, ck, x, X, g, h, ok => by
    simp only [okE] at ok
    split at ok
    · obtain ⟨a1, a2⟩ := ba ok
      obtain ⟨a3, a4⟩ := ba a1
      exact s_ite (sT t ck _ X g h a3) (sE a ck _ X g h a4) (sE b ck _ X g h a2)
    · cases ok
  | .ix a b, ck, x, X, g, h, ok => by
    simp only [okE] at ok
    split at ok
    · obtain ⟨a1, a2⟩ := ba ok
      obtain ⟨a3, a4⟩ := ba a1
      exact s_ix h.un (notSlice_ix a3) (sE a ck _ X g h a4) (sE b ck _ X g h a2)
    · cases ok
  | .sl a lo hi, ck, x, X, g, h, ok => by
    simp only [okE] at ok
    split at ok
    · obtain ⟨a1, a2⟩ := ba ok
      obtain ⟨a3, a4⟩ := ba a1
      refine s_sl (sE a ck _ X g h a3) ?_ ?_
      · split at a4
        · rw [isNo_ok a4]
          exact o_none
        · exact o_some (sE lo ck _ X g h a4)
      · split at a2
        · rw [isNo_ok a2]
          exact o_none
        · exact o_some (sE hi ck _ X g h a2)
    · cases ok
  | .tup es, ck, x, X, g, h, ok => by
    simp only [okE] at ok
    split at ok
    · exact s_tup (sEs es ck _ X g h ok)
    · cases ok
  | .lis l, ck, x, X, g, h, ok => by
    simp only [okE] at ok
    exact s_lis (sL l ck x X g h ok)
  | .new l, ck, x, X, g, h, ok => by
    simp only [okE] at ok
    exact s_new (sL l ck x X g h ok)
  | .call f es, ck, x, X, g, h, ok => by
    simp only [okE] at ok
    split at ok
    · rename_i m _ xs _
      obtain ⟨a1, a2⟩ := ba ok
      obtain ⟨a3, a4⟩ := ba a1
      obtain ⟨a5, a6⟩ := ba a3
      obtain ⟨fa, e1, e2, F⟩ := h.defs f m (decT a5)
      have hm : X.mg m = some (.ref fa) := by rw [h.is.mg]; exact e1
      have hk : PySem.W.keepIn X.K (.ref fa) = true := by rw [h.is.K]; exact e2
      have C := F.call h.is h.room
      cases xs with
      | nil =>
        have : es = .nil := by
          cases es with
          | nil => rfl
          | cons _ _ => simp [okEs] at a2
        subst this
        exact s_call0 C (h.gl a6) hm hk (okNm_ok a4).1
      | cons y ys => exact s_call C (h.gl a6) hm hk (okEs_noStar a2) (okNm_ok a4).1 (sEs es ck _ X g h a2)
    · cases ok
  | .callK f es ks perm, ck, x, X, g, h, ok => by
    simp only [okE] at ok
    split at ok
    · rename_i n _ kws _
      obtain ⟨a1, a2⟩ := ba ok
      obtain ⟨a3, a4⟩ := ba a1
      obtain ⟨a5, a6⟩ := ba a3
      obtain ⟨a7, a8⟩ := ba a5
      obtain ⟨a9, a10⟩ := ba a7
      obtain ⟨a11, a12⟩ := ba a9
      obtain ⟨fa, m1, m2, m3⟩ := h.defs f n (decT a11)
      obtain rfl := es_nil (decT a4)
      exact s_callK0 m3 h.is h.room (h.gl a8) (by rw [h.is.mg]; exact m1) (by rw [h.is.K]; exact m2) (okNm_d a6) (h.kw _ _ _ _ _ (decT a11) m1 a12) a10 (sKs ks ck kws X g h a2)
    · cases ok
  | .callL f es, ck, x, X, g, h, ok => by
    simp only [okE] at ok
    split at ok
    · rename_i m _ xs _
      obtain ⟨a1, a2⟩ := ba ok
      obtain ⟨a3, a4⟩ := ba a1
      obtain ⟨a5, a6⟩ := ba a3
      obtain ⟨a10, a8⟩ := ba a5
      obtain ⟨a7, a9⟩ := ba a10
      obtain ⟨fa, e1, e2, F⟩ := h.defs f m (decT a7)
      have hm : X.mg m = some (.ref fa) := by rw [h.is.mg]; exact e1
      have hk : PySem.W.keepIn X.K (.ref fa) = true := by rw [h.is.K]; exact e2
      have A := sAs es ck xs X g h a2
      cases xs with
      | nil => cases a4
      | cons y ys =>
        exact s_callL h F (lk_ok h a9) (h.gl a8) hm hk (okAs_noStar a2) (okNm_ok a6).1 A
    · cases ok
  | .bi b es, ck, x, X, g, h, ok => by
    simp only [okE] at ok
    split at ok
    · rename_i m _ xs _
      obtain ⟨a1, a2⟩ := ba ok
      obtain ⟨a3, a4⟩ := ba a1
      obtain ⟨a5, a6⟩ := ba a3
      obtain ⟨a7, a8⟩ := ba a5
      cases decT a8
      cases xs with
      | nil => cases a4
      | cons y ys => exact s_bi h.calm h.un a7 (h.gl a6) (h.bl (biNm_in b)) (okEs_noStar a2) (sEs es ck _ X g h a2)
    · cases ok
  | .lenSet e, ck, x, X, g, h, ok => by
    simp only [okE] at ok
    split at ok
    · obtain ⟨a1, a2⟩ := ba ok
      obtain ⟨a3, a4⟩ := ba a1
      obtain ⟨a5, a6⟩ := ba a3
      obtain ⟨a7, a8⟩ := ba a5
      obtain ⟨a9, a10⟩ := ba a7
      cases decT a9
      cases decT a10
      exact s_lenSet h.calm h.un (h.gl a8) (h.bl (by decide)) (h.gl a6) (h.bl (by decide)) (one_star a4) (sE e ck _ X g h a2)
    · cases ok
  | .me m o es, ck, x, X, g, h, ok => by
    simp only [okE] at ok
    split at ok
    · obtain ⟨a1, a2⟩ := ba ok
      obtain ⟨a3, a4⟩ := ba a1
      obtain ⟨a5, a6⟩ := ba a3
      obtain ⟨a7, a8⟩ := ba a5
      obtain ⟨a9, a10⟩ := ba a7
      cases decT a10
      have : es = .nil := by
        cases es with
        | nil => rfl
        | cons _ _ => simp [okEs] at a2
      subst this
      refine s_me0 ?_ (notSuper_ok a8 _ _ _) a6 (sE o ck _ X g h a4)
      rcases Bool.or_eq_true_iff.mp a9 with z | z
      · exact .inl (decT z)
      · exact .inr (decT z)
    · obtain ⟨a1, a2⟩ := ba ok
      obtain ⟨a3, a4⟩ := ba a1
      obtain ⟨a5, a6⟩ := ba a3
      obtain ⟨a7, a8⟩ := ba a5
      obtain ⟨a9, a10⟩ := ba a7
      cases decT a10
      refine s_me ?_ (notSuper_ok a8 _ _ _) a6 (okEs_noStar a2) (sE o ck _ X g h a4) (sEs es ck _ X g h a2)
      rcases Bool.or_eq_true_iff.mp a9 with z | z
      · exact .inl (decT z)
      · exact .inr (decT z)
    · cases ok
  | .lamb _, ck, x, X, g, h, ok => by simp [okE] at ok
  | .cal i es, ck, x, X, g, h, ok => by
    simp only [okE] at ok
    split at ok
    · obtain ⟨a1, a2⟩ := ba ok
      obtain ⟨a3, a4⟩ := ba a1
      obtain ⟨a5, a6⟩ := ba a3
      obtain ⟨b1, b2⟩ := okNm_ok a4
      exact s_cal h (decT a2) (by rw [h.N]; exact decT a5) (h.vis a6) b1 b2
    · cases ok
theorem sAs : ∀ (es : Es) (ck : Ck) (xs : List Expr) (X : L2.Cx) (g : Gc), XOk S X g ck n → okAs es ck xs = true → ArgsOk S X g ck es xs
  | .nil, ck, xs, X, g, h, ok => by
    simp only [okAs] at ok
    cases xs with
    | nil => exact .nil
    | cons _ _ => cases ok
  | .cons e r, ck, xs, X, g, h, ok => by
    simp only [okAs] at ok
    split at ok
    · obtain ⟨a1, a2⟩ := ba ok
      obtain ⟨a3, a4⟩ := ba a1
      split at a4
      · rename_i k hk
        cases isLamb_ok hk
        exact .lam a4 (sAs r ck _ X g h a2)
      · exact .exp (nb a3) (sE e ck _ X g h a4) (sAs r ck _ X g h a2)
    · cases ok
theorem sEs : ∀ (es : Es) (ck : Ck) (xs : List Expr) (X : L2.Cx) (g : Gc), XOk S X g ck n → okEs es ck xs = true → PA X xs (tEs g X es)
  | .nil, ck, xs, X, g, h, ok => by
    simp only [okEs] at ok
    cases xs with
    | nil => exact sa_nil
    | cons _ _ => cases ok
  | .cons e r, ck, xs, X, g, h, ok => by
    have ns := okEs_noStar ok
    simp only [okEs] at ok
    split at ok
    · obtain ⟨a1, a2⟩ := ba ok
      obtain ⟨a3, a4⟩ := ba a1
      exact sa_cons (noStar_cons ns X.env).1 (sE e ck _ X g h a4) (sEs r ck _ X g h a2)
    · cases ok
theorem sKs : ∀ (es : Es) (ck : Ck) (kws : List Keyword) (X : L2.Cx) (g : Gc), XOk S X g ck n → okEs es ck (kws.map (·.value)) = true → PK X kws (tEs g X es)
  | .nil, ck, kws, X, g, h, ok => by
    simp only [okEs] at ok
    cases kws with
    | nil => exact sk_nil
    | cons _ _ => cases ok
  | .cons e r, ck, kws, X, g, h, ok => by
    cases kws with
    | nil => simp [okEs] at ok
    | cons k kws =>
      simp only [List.map_cons, okEs] at ok
      obtain ⟨a1, a2⟩ := ba ok
      obtain ⟨a3, a4⟩ := ba a1
      exact sk_cons (sE e ck _ X g h a4) (sKs r ck _ X g h a2)
theorem sT : ∀ (t : T) (ck : Ck) (x : Expr) (X : L2.Cx) (g : Gc), XOk S X g ck n → okT t ck x = true → PT X x (tT g X t)
  | .of e, ck, x, X, g, h, ok => by
    cases e with
    | cmp op a b =>
      simp only [okT] at ok
      split at ok
      · obtain ⟨a1, a2⟩ := ba ok
        obtain ⟨a3, a4⟩ := ba a1
        obtain ⟨a5, a6⟩ := ba a3
        cases decT a5
        exact st_cmp h.un (nb a6) (sE a ck _ X g h a4) (sE b ck _ X g h a2)
      · cases ok
    | chn op op2 a b c =>
      simp only [okT] at ok
      split at ok
      · obtain ⟨a1, a2⟩ := ba ok
        obtain ⟨a3, a4⟩ := ba a1
        obtain ⟨a5, a6⟩ := ba a3
        obtain ⟨a7, a8⟩ := ba a5
        obtain ⟨a9, a10⟩ := ba a7
        cases decT a9
        cases decT a10
        exact st_chn h.un (nb a8) (sE a ck _ X g h a6) (sE b ck _ X g h a4) (sE c ck _ X g h a2)
      · cases ok
    | isN a =>
      simp only [okT] at ok
      split at ok
      · exact st_isN (sE a ck _ X g h ok)
      · cases ok
    | notN a =>
      simp only [okT] at ok
      split at ok
      · exact st_notN (sE a ck _ X g h ok)
      · cases ok
    | _ =>
      simp only [okT] at ok
      obtain ⟨a1, a2⟩ := ba ok
      exact st_of a1 (sE _ ck x X g h a2)
  | .and a b, ck, x, X, g, h, ok => by
    simp only [okT] at ok
    split at ok
    · obtain ⟨a1, a2⟩ := ba ok
      exact st_and (sT a ck _ X g h a1) (pw_and1 (sT b ck _ X g h a2))
    · obtain ⟨a1, a2⟩ := ba ok
      exact st_and (sT a ck _ X g h a1) (pw_of (sT b ck _ X g h a2))
    · cases ok
  | .or a b, ck, x, X, g, h, ok => by
    simp only [okT] at ok
    split at ok
    · obtain ⟨a1, a2⟩ := ba ok
      exact st_or (sT a ck _ X g h a1) (pw_or1 (sT b ck _ X g h a2))
    · obtain ⟨a1, a2⟩ := ba ok
      exact st_or (sT a ck _ X g h a1) (pw_of (sT b ck _ X g h a2))
    · cases ok
  | .not a, ck, x, X, g, h, ok => by
    simp only [okT] at ok
    split at ok
    · exact st_not (sT a ck _ X g h ok)
    · cases ok
theorem sL : ∀ (l : L) (ck : Ck) (x : Expr) (X : L2.Cx) (g : Gc), XOk S X g ck n → okL l ck x = true → PE X x (tL g X l)
  | .dis es, ck, x, X, g, h, ok => by
    simp only [okL] at ok
    split at ok
    · exact sl_dis (sEs es ck _ X g h ok)
    · cases ok
  | .cmp vs p it e, ck, x, X, g, h, ok => by
    simp only [okL] at ok
    split at ok
    · obtain ⟨a1, a2⟩ := ba ok
      obtain ⟨a3, a4⟩ := ba a1
      obtain ⟨a5, a6⟩ := ba a3
      obtain ⟨a7, a8⟩ := ba a5
      obtain ⟨a9, a10⟩ := ba a7
      have B := blkOk_by a8
      refine sl_cmpG (own := ownOf ck.N vs) h.calm (by rw [h.N]; exact h.nd) (sI it ck _ _ X g h a9) (by rw [h.N, h.sc]; exact B) (fun s H C cl fp => sP p _ (h.blk B.kind) a4) (fun s H C cl fp => pts_nil) (fun s H C cl fp => sE e _ _ _ g.nox (h.blk B.kind) a2) (notSet_ok a10 _) ?_
      rw [ownOf_snd]
      exact m_cmp' a6
    · cases ok
  | .cmpIf vs p it t e, ck, x, X, g, h, ok => by
    simp only [okL] at ok
    split at ok
    · obtain ⟨a0, a00⟩ := ba ok
      obtain ⟨a1, a2⟩ := ba a0
      obtain ⟨a3, a4⟩ := ba a1
      obtain ⟨a5, a6⟩ := ba a3
      obtain ⟨a7, a8⟩ := ba a5
      obtain ⟨a9, a10⟩ := ba a7
      have B := blkOk_by a8
      refine sl_cmpG (own := ownOf ck.N vs) h.calm (by rw [h.N]; exact h.nd) (sI it ck _ _ X g h a9) (by rw [h.N, h.sc]; exact B) (fun s H C cl fp => sP p _ (h.blk B.kind) a4) (tt := tT g.nox X t) (fun s H C cl fp => pts_one (sT t (ck.blk _) _ (X.blk s H _ (compEnvC _ cl C X.env) fp) g.nox (h.blk B.kind) a00)) (fun s H C cl fp => sE e _ _ _ g.nox (h.blk B.kind) a2) (notSet_ok a10 _) ?_
      rw [ownOf_snd]
      exact m_cmpIf' a6
    · cases ok
  | .of e, ck, x, X, g, h, ok => by
    simp only [okL] at ok
    split at ok
    · obtain ⟨a1, a2⟩ := ba ok
      obtain ⟨a3, a4⟩ := ba a1
      obtain ⟨a5, a6⟩ := ba a3
      cases decT a5
      exact sl_of (h.gl a6) (h.bl (by decide)) (one_star a4) (sE e ck _ X g h a2)
    · cases ok
  | .rep a m, ck, x, X, g, h, ok => by
    simp only [okL] at ok
    split at ok
    · obtain ⟨a1, a2⟩ := ba ok
      exact sl_rep (sL a ck _ X g h a1) (sE m ck _ X g h a2)
    · cases ok
  | .cat a b, ck, x, X, g, h, ok => by
    simp only [okL] at ok
    split at ok
    · obtain ⟨a1, a2⟩ := ba ok
      exact sl_cat (sE a ck _ X g h a1) (sE b ck _ X g h a2)
    · cases ok
  | .cut a lo hi, ck, x, X, g, h, ok => by
    simp only [okL] at ok
    split at ok
    · obtain ⟨a1, a2⟩ := ba ok
      obtain ⟨a3, a4⟩ := ba a1
      refine sl_cut (sE a ck _ X g h a3) ?_ ?_
      · split at a4
        · rw [isNo_ok a4]
          exact o_none
        · exact o_some (sE lo ck _ X g h a4)
      · split at a2
        · rw [isNo_ok a2]
          exact o_none
        · exact o_some (sE hi ck _ X g h a2)
    · cases ok
  | .rev _, ck, x, X, g, h, ok => by simp [okL] at ok
  | .sorted _, ck, x, X, g, h, ok => by simp [okL] at ok
theorem sI : ∀ (i : I) (ck : Ck) (tg x : Expr) (X : L2.Cx) (g : Gc), XOk S X g ck n → okI i ck tg x = true → PI X tg x (tI g X i)
  | .of e, ck, tg, x, X, g, h, ok => by
    simp only [okI] at ok
    exact si_of (sE e ck x X g h ok)
  | .rng es, ck, tg, x, X, g, h, ok => by
    simp only [okI] at ok
    split at ok
    · obtain ⟨a1, a2⟩ := ba ok
      obtain ⟨a3, a4⟩ := ba a1
      obtain ⟨a5, a6⟩ := ba a3
      cases decT a5
      exact si_rng1 (h.gl a6) (h.bl (by decide)) (okEs_noStar a2) (decT a4) (sEs es ck _ X g h a2)
    · obtain ⟨a1, a2⟩ := ba ok
      obtain ⟨a3, a4⟩ := ba a1
      obtain ⟨a5, a6⟩ := ba a3
      cases decT a5
      exact si_rng2 (h.gl a6) (h.bl (by decide)) (okEs_noStar a2) (decT a4) (sEs es ck _ X g h a2)
    · cases ok
  | .enu e, ck, tg, x, X, g, h, ok => by
    simp only [okI] at ok
    split at ok
    · obtain ⟨a1, a2⟩ := ba ok
      obtain ⟨a3, a4⟩ := ba a1
      obtain ⟨a5, a6⟩ := ba a3
      obtain ⟨a7, a8⟩ := ba a5
      cases decT a7
      split at a2
      · exact si_enu (h.gl a8) (h.bl (by decide)) (one_star a6) (sE e ck _ X g h a4)
      · cases a2
    · cases ok
  | .zip _ _, ck, tg, x, X, g, h, ok => by simp [okI] at ok
end
end
end Ev

end
section
set_option Elab.async false
set_option linter.all false
set_option maxRecDepth 100000
set_option autoImplicit false
set_option maxHeartbeats 4000000
/-! EvR: the theorem on statements. -/
namespace Ev
open PySem PySem.Spec PyProof.Rows L2
def isLc : Expr → Bool
  | .ListComp _ _ _ _ => true
  | _ => false
def isLcE : E → Bool
  | .lis l => (match l with
    | .cmp _ _ _ _ => true
    | .cmpIf _ _ _ _ _ => true
    | _ => false)
  | .new l => (match l with
    | .cmp _ _ _ _ => true
    | .cmpIf _ _ _ _ _ => true
    | _ => false)
  | _ => false
def lclB (ck : Ck) (x : Str) : Bool := match ck.sc.names.lookup x with
  | some .local => true
  | _ => false
/-- the swapped stores of two, of three -/
def swap2B (ck : Ck) (i j : Nat) (n m : Str) (px py : Pos) (xs : List Expr) : Bool := decide (ck.N[i]? = some n) && decide (ck.N[j]? = some m) && !(i == j) && lclB ck n && lclB ck m && (py.line == px.line) && !(m == n) && !xs.any isStar && !xs.all (foldedForSure 8) && !xs.all (constantsAlone 8)
def swap3B (ck : Ck) (i j k : Nat) (n m o : Str) (px py pz : Pos) (xs : List Expr) : Bool := swap2B ck i j n m px py xs && decide (ck.N[k]? = some o) && !(i == k) && !(j == k) && lclB ck o && (pz.line == px.line) && !(o == n) && !(o == m)
def okPar (ck : Ck) (is : List Nat) (es : Es) (ts xs : List Expr) : Bool := match is, ts, xs with
  | [i, j], [.Name n px, .Name m py], [a, b] => swap2B ck i j n m px py [a, b] || (swapNo ck.sc [.Name n px, .Name m py] [a, b] && okPs ck [.name i, .name j] [.Name n px, .Name m py])
  | [i, j, k], [.Name n px, .Name m py, .Name o pz], [a, b, c] => swap3B ck i j k n m o px py pz [a, b, c] || (swapNo ck.sc [.Name n px, .Name m py, .Name o pz] [a, b, c] && okPs ck [.name i, .name j, .name k] [.Name n px, .Name m py, .Name o pz])
  | is, ts, xs => swapNo ck.sc ts xs && okPs ck (is.map Pat.name) ts
def okH (ck : Ck) (nm : Str) : List (Nat × Hd) → List ExceptHandler → Bool
  | [], [] => true
  | (k, .tagWhat tag) :: r, .ExceptHandler (some (.Name x _)) (some m) [.Return (some (.Tuple [.Constant (.str t) _ _, .Attribute (.Name m2 _) w _] _ _)) _] _ :: hds => decide (ck.tb.cnm k = some x) && glB ck.sc x && okNm x && (m == nm) && (m2 == nm) && (w == "what") && (t == tag) && okH ck nm r hds
  | _, _ => false
mutual
def okS : S → Ck → Stmt → Bool
  | .set p e, ck, s => (match s with
    | .Assign [tg] x _ => (noComp x && nameOr tg x && okP ck p tg && okE e ck x) || (isLcE e && okE e ck x && (match p, tg with
      | .name i, .Name n _ => okP ck (.name i) (.Name n default)
      | _, _ => false))
    | _ => false)
  | .par is es, ck, s => (match s with
    | .Assign [.Tuple ts _ _] (.Tuple xs _ _) _ => decide (es.len ≤ 1000) && okEs es ck xs && okPar ck is es ts xs
    | _ => false)
  | .aug _ _ _, _, _ => false
  | .sts o i e, ck, s => (match s with
    | .Assign [.Subscript x y _] z _ => noComp z && notSlice y && okE o ck x && okE i ck y && okE e ck z
    | _ => false)
  | .ex e, ck, s => (match s with
    | .Expr x _ => noComp x && okE e ck x
    | _ => false)
  | .ret e, ck, s => (match s with
    | .Return (some x) _ => okE e ck x
    | _ => false)
  | .retN, _, s => (match s with
    | .Return none _ => true
    | _ => false)
  | .ite t a b, ck, s => (match s with
    | .If x sa sb _ => okT t ck x && okSs a ck sa && okSs b ck sb
    | _ => false)
  | .whl t b, ck, s => (match s with
    | .While x sa [] _ => okT t ck x && okSs b ck sa
    | _ => false)
  | .for p it b, ck, s => (match s with
    | .For tg x sa [] _ => notSet x && okI it ck tg x && okP ck p tg && okSs b ck sa
    | _ => false)
  | .rai k e, ck, s => (match s with
    | .Raise (some (.Call (.Name n _) [x] [] _)) none _ => decide (ck.tb.cnm k = some n) && glB ck.sc n && okNm n && !isStar x && okE e ck x
    | _ => false)
  | .try b hs, ck, s => (match s with
    | .Try body (h₀ :: hds) [] [] _ => (match h₀ with
      | .ExceptHandler _ (some nm) _ _ => decide (ck.N[ck.N.idxOf nm]? = some nm) && lclB ck nm && okNm nm && okH ck nm hs (h₀ :: hds) && okSs b ck body
      | _ => false)
    | _ => false)
  | .brk, _, s => (match s with
    | .Break _ => true
    | _ => false)
  | .cnt, _, s => (match s with
    | .Continue _ => true
    | _ => false)
  | .pas, _, s => (match s with
    | .Pass _ => true
    | _ => false)
def okSs : Ss → Ck → List Stmt → Bool
  | .nil, _, ss => ss.isEmpty
  | .cons s r, ck, ss => (match ss with
    | x :: xs => okS s ck x && okSs r ck xs
    | [] => false)
end
/-- a def's frame -/
structure XOkS (S : Stt) (sub : Nat → Nat → Bool) (X : L2.Cx) (g : Gc) (ck : Ck) (n : Nat) : Prop where
  x : XOk S X g ck n
  pass : PassesOwn (model X.prog X.w) X.A X.env X.xe
  stk : X.stack = X.env :: X.outer
  frm : X.env.frame = some X.env.locals
  room : Room 2 X.A
  err : ∃ (fI : Addr) (fd : FuncData), ErrC S.K S.cl sub fI ∧ Binds S.K fd ["self", "what"] [] ∧ ∀ base, FnOk S.P S.w S.K S.mg base (CX S.P S.w) 1 fI fd ["self", "what"] (spInit S.K)
  cnm : ∀ k x, ck.tb.cnm k = some x → sub k k = true ∧ S.mg x = some (.ref (S.cl k))
section
variable {S : Stt} {sub : Nat → Nat → Bool} {n : Nat} {X : L2.Cx} {g : Gc} {ck : Ck}
theorem XOkS.errX (h : XOkS S sub X g ck n) : ∃ (fI : Addr) (fd : FuncData), ErrC X.K g.cl sub fI ∧ Binds X.K fd ["self", "what"] [] ∧ FnOk X.prog X.w X.K X.mg X.base (CX X.prog X.w) 1 fI fd ["self", "what"] (spInit X.K) := by
  obtain ⟨fI, fd, e1, e2, e3⟩ := h.err
  refine ⟨fI, fd, ?_, ?_, ?_⟩
  · rw [h.x.is.K, h.x.is.cl]
    exact e1
  · rw [h.x.is.K]
    exact e2
  · rw [h.x.is.P, h.x.is.w, h.x.is.K, h.x.is.mg]
    exact e3 X.base
theorem lclB_ok {x : Str} (h : lclB ck x = true) : ck.sc.names.lookup x = some .local := by
  unfold lclB at h
  split at h
  · assumption
  · cases h
theorem XOkS.lcl (h : XOkS S sub X g ck n) {x : Str} (hb : lclB ck x = true) : X.env.scope.names.lookup x = some .local := by
  rw [h.x.sc]
  exact lclB_ok hb
theorem XOkS.tr (h : XOkS S sub X g ck n) {W : WX} {pn : List (Addr × Obj)} {xe : Value → Shared → Prop} (tk : Takes (X.tr pn xe) W) (ps : PassesOwn (model X.prog X.w) X.A X.env xe) : XOkS S sub (X.tr pn xe) (g.wish X.N.length W) ck n where
  x := ⟨⟨h.x.is.P, h.x.is.w, h.x.is.K, h.x.is.mg, h.x.is.cl, h.x.is.T, h.x.is.q, h.x.is.cb, h.x.is.tb, takes_wish tk⟩, h.x.calm, h.x.N, h.x.sc, h.x.fn, h.x.nd, h.x.kind, h.x.room, h.x.blt, h.x.glo, h.x.defs, h.x.clos, fun k hk => ⟨(h.x.lamk k hk).ex, (h.x.lamk k hk).stk, (h.x.lamk k hk).frm, (h.x.lamk k hk).fn⟩, h.x.okl, h.x.kw⟩
  pass := ps
  stk := h.stk
  frm := h.frm
  room := h.room
  err := h.err
  cnm := h.cnm
theorem s_setL {i : Nat} {m : Str} {py pos : Pos} {x : Expr} {e : E} (h : XOkS S sub X g ck n) (he : isLcE e = true) (ok : okE e ck x = true) (hp : okP ck (.name i) (.Name m default) = true) : PS X (.Assign [.Name m py] x pos) (tS g X sub (.set (.name i) e)) := by
  simp only [okP] at hp
  obtain ⟨p1, p2⟩ := ba hp
  obtain ⟨p3, p4⟩ := h.x.loc p2
  have hN : X.N.Nodup := by rw [h.x.N]; exact h.x.nd
  have hi : X.N[i]? = some m := by rw [h.x.N]; exact decT p1
  have hk : X.env.scope.kind = .function := by rw [h.x.sc]; exact h.x.kind
  have core : ∀ {L0 : L}, (∀ σ H Q, tE g X e σ H Q → tL g X L0 σ H Q) → okL L0 ck x = true → (match L0 with
      | .cmp _ _ _ _ => true
      | .cmpIf _ _ _ _ _ => true
      | _ => false) = true → PS X (.Assign [.Name m py] x pos) (tS g X sub (.set (.name i) e)) := by
    intro L0 M ok hl
    cases L0 with
    | cmp vs p it el =>
      simp only [okL] at ok
      split at ok
      · obtain ⟨a1, a2⟩ := ba ok
        obtain ⟨a3, a4⟩ := ba a1
        obtain ⟨a5, a6⟩ := ba a3
        obtain ⟨a7, a8⟩ := ba a5
        obtain ⟨a9, a10⟩ := ba a7
        have B := blkOk_by a8
        refine s_setLc (own := ownOf ck.N vs) h.x.calm hk hN hi p3 p4 (sI it ck _ _ X g h.x a9) (by rw [h.x.N, h.x.sc]; exact B) (fun s H C cl fp => sP p _ (h.x.blk B.kind) a4) (fun s H C cl fp => pts_nil) (fun s H C cl fp => sE el _ _ _ g.nox (h.x.blk B.kind) a2) (notSet_ok a10 _) ?_
        rw [ownOf_snd]
        exact fun σ H Q q => m_cmp' a6 _ _ _ (M _ _ _ q)
      · cases ok
    | cmpIf vs p it t el =>
      simp only [okL] at ok
      split at ok
      · obtain ⟨a0, a00⟩ := ba ok
        obtain ⟨a1, a2⟩ := ba a0
        obtain ⟨a3, a4⟩ := ba a1
        obtain ⟨a5, a6⟩ := ba a3
        obtain ⟨a7, a8⟩ := ba a5
        obtain ⟨a9, a10⟩ := ba a7
        have B := blkOk_by a8
        refine s_setLc (own := ownOf ck.N vs) h.x.calm hk hN hi p3 p4 (sI it ck _ _ X g h.x a9) (by rw [h.x.N, h.x.sc]; exact B) (fun s H C cl fp => sP p _ (h.x.blk B.kind) a4) (tt := tT g.nox X t) (fun s H C cl fp => pts_one (sT t (ck.blk _) _ (X.blk s H _ (compEnvC _ cl C X.env) fp) g.nox (h.x.blk B.kind) a00)) (fun s H C cl fp => sE el _ _ _ g.nox (h.x.blk B.kind) a2) (notSet_ok a10 _) ?_
        rw [ownOf_snd]
        exact fun σ H Q q => m_cmpIf' a6 _ _ _ (M _ _ _ q)
      · cases ok
    | _ => cases hl
  cases e with
  | lis L0 =>
    simp only [okE] at ok
    exact core (fun σ H Q q => m_lis q) ok (by simpa only [isLcE] using he)
  | new L0 =>
    simp only [okE] at ok
    exact core (fun σ H Q q => m_new q) ok (by simpa only [isLcE] using he)
  | _ => simp [isLcE] at he
theorem s_parB {is : List Nat} {es : Es} {ts xs : List Expr} {kt k2 : Nat} {pt pt2 pos : Pos} (h : XOkS S sub X g ck n) (hl : es.len ≤ 1000) (he : PA X xs (tEs g X es)) (ok : okPar ck is es ts xs = true) : PS X (.Assign [.Tuple ts kt pt] (.Tuple xs k2 pt2) pos) (tS g X sub (.par is es)) := by
  have hN : X.N.Nodup := by rw [h.x.N]; exact h.x.nd
  have hk : X.env.scope.kind = .function := by rw [h.x.sc]; exact h.x.kind
  have gen : (swapNo ck.sc ts xs && okPs ck (is.map Pat.name) ts) = true → PS X (.Assign [.Tuple ts kt pt] (.Tuple xs k2 pt2) pos) (tS g X sub (.par is es)) := fun q => by
    obtain ⟨q1, q2⟩ := ba q
    exact s_parN hl (by rw [h.x.sc]; exact q1) he (sP (.tup (is.map Pat.name)) (.Tuple ts kt pt) h.x (by simp only [okP]; exact q2))
  have two : ∀ {i j : Nat} {n m : Str} {px py : Pos} {xs : List Expr}, swap2B ck i j n m px py xs = true → (X.N[i]? = some n ∧ X.N[j]? = some m) ∧ i ≠ j ∧ X.env.scope.names.lookup n = some .local ∧ X.env.scope.names.lookup m = some .local ∧ (py.line == px.line) = true ∧ (m == n) = false ∧ xs.any isStar = false ∧ xs.all (foldedForSure 8) = false ∧ xs.all (constantsAlone 8) = false := fun {i j n m px py xs} q => by
    obtain ⟨q, c1⟩ := ba q
    obtain ⟨q, c2⟩ := ba q
    obtain ⟨q, c3⟩ := ba q
    obtain ⟨q, c4⟩ := ba q
    obtain ⟨q, c5⟩ := ba q
    obtain ⟨q, c6⟩ := ba q
    obtain ⟨q, c7⟩ := ba q
    obtain ⟨q, c8⟩ := ba q
    obtain ⟨c10, c9⟩ := ba q
    exact ⟨by rw [h.x.N]; exact ⟨decT c10, decT c9⟩, by simpa using c8, h.lcl c7, h.lcl c6, c5, nb c4, nb c3, nb c2, nb c1⟩
  unfold okPar at ok
  split at ok
  · rcases Bool.or_eq_true_iff.mp ok with q | q
    · obtain ⟨⟨d1, d2⟩, d3, d4, d5, d6, d7, d8, d9, d10⟩ := two q
      exact s_par2 h.x.calm hk hN d1 d2 d3 d4 d5 d6 d7 d8 d9 d10 he
    · exact gen q
  · rcases Bool.or_eq_true_iff.mp ok with q | q
    · unfold swap3B at q
      obtain ⟨q, c1⟩ := ba q
      obtain ⟨q, c2⟩ := ba q
      obtain ⟨q, c3⟩ := ba q
      obtain ⟨q, c4⟩ := ba q
      obtain ⟨q, c5⟩ := ba q
      obtain ⟨q, c6⟩ := ba q
      obtain ⟨q, c7⟩ := ba q
      obtain ⟨⟨d1, d2⟩, d3, d4, d5, d6, d7, d8, d9, d10⟩ := two q
      exact s_par3 h.x.calm hk hN d1 d2 (by rw [h.x.N]; exact decT c7) d3 (by simpa using c6) (by simpa using c5) d4 d5 (h.lcl c4) d6 c3 d7 (nb c2) (nb c1) d8 d9 d10 he
    · exact gen q
  · exact gen ok
theorem okH_tagged {nm : Str} (h : XOkS S sub X g ck n) : ∀ {hs : List (Nat × Hd)} {hds : List ExceptHandler}, okH ck nm hs hds = true → tagged sub hs = true
  | [], [], _ => rfl
  | [], _ :: _, ok => by simp [okH] at ok
  | (_, .con _) :: _, _, ok => by simp [okH] at ok
  | (k, .tagWhat tag) :: r, hds, ok => by
    unfold okH at ok
    split at ok
    · rename_i e
      cases e
    · rename_i e
      cases e
      obtain ⟨q, c1⟩ := ba ok
      obtain ⟨q, c2⟩ := ba q
      obtain ⟨q, c3⟩ := ba q
      obtain ⟨q, c4⟩ := ba q
      obtain ⟨q, c5⟩ := ba q
      obtain ⟨q, c6⟩ := ba q
      obtain ⟨c8, c7⟩ := ba q
      simp only [tagged]
      rw [(h.cnm _ _ (decT c8)).1, okH_tagged h c1]
      rfl
    · cases ok
theorem okH_hds {nm : Str} {i : Nat} (h : XOkS S sub X g ck n) (hi : X.N[i]? = some nm) (hl : lclB ck nm = true) (hn : okNm nm = true) : ∀ {hs : List (Nat × Hd)} {hds : List ExceptHandler}, okH ck nm hs hds = true → HdsA X hds (hdT X g i hs)
  | [], [], _ => .nil
  | [], _ :: _, ok => by simp [okH] at ok
  | (_, .con _) :: _, _, ok => by simp [okH] at ok
  | (k, .tagWhat tag) :: r, hds, ok => by
    unfold okH at ok
    split at ok
    · rename_i e
      cases e
    · rename_i e
      cases e
      obtain ⟨q, c1⟩ := ba ok
      obtain ⟨q, c2⟩ := ba q
      obtain ⟨q, c3⟩ := ba q
      obtain ⟨q, c4⟩ := ba q
      obtain ⟨q, c5⟩ := ba q
      obtain ⟨q, c6⟩ := ba q
      obtain ⟨c8, c7⟩ := ba q
      cases eq_of_beq c5
      cases eq_of_beq c4
      cases eq_of_beq c3
      cases eq_of_beq c2
      have e1 := (h.cnm _ _ (decT c8)).2
      refine .cons ⟨h.x.gl c7, (okNm_ok c6).1, .inl ?_⟩ hi (h.lcl hl) (fun a oe cls d pn hz hf => s_tag hi (.inl (h.lcl hl)) (okNm_ok hn).1 (okNm_ok hn).2 hz hf) (okH_hds h hi hl hn c1)
      rw [h.x.is.mg, h.x.is.cl]
      exact e1
    · cases ok
end
end Ev

end
section
set_option Elab.async false
set_option linter.all false
set_option maxRecDepth 100000
set_option autoImplicit false
set_option maxHeartbeats 4000000
/-! EvS: statements, defs. -/
namespace Ev
open PySem PySem.Spec PyProof.Rows L2
section
variable {S : Stt} {sub : Nat → Nat → Bool} {n : Nat}
theorem sub_match {y : Expr} : notSlice y = true → (match y with | .Slice _ _ _ _ => false | _ => true) = true := by
  intro h
  cases y <;> first | (cases h; done) | rfl
mutual
theorem sS : ∀ (s : Ev.S) (ck : Ck) (x : Stmt) (X : L2.Cx) (g : Gc), XOkS S sub X g ck n → okS s ck x = true → PS X x (tS g X sub s)
  | .set p e, ck, x, X, g, h, ok => by
    simp only [okS] at ok
    split at ok
    · rcases Bool.or_eq_true_iff.mp ok with q | q
      · obtain ⟨q, c1⟩ := ba q
        obtain ⟨q, c2⟩ := ba q
        obtain ⟨c4, c3⟩ := ba q
        exact s_set c4 c3 (sE e ck _ X g h.x c1) (sP p _ h.x c2)
      · obtain ⟨q, c1⟩ := ba q
        obtain ⟨c3, c2⟩ := ba q
        split at c1
        · exact s_setL h c3 c2 c1
        · cases c1
    · cases ok
  | .par is es, ck, x, X, g, h, ok => by
    simp only [okS] at ok
    split at ok
    · obtain ⟨q, c1⟩ := ba ok
      obtain ⟨c3, c2⟩ := ba q
      exact s_parB h (decT c3) (sEs es ck _ X g h.x c2) c1
    · cases ok
  | .aug _ _ _, ck, x, X, g, h, ok => by simp [okS] at ok
  | .sts o i e, ck, x, X, g, h, ok => by
    simp only [okS] at ok
    split at ok
    · obtain ⟨q, c1⟩ := ba ok
      obtain ⟨q, c2⟩ := ba q
      obtain ⟨q, c3⟩ := ba q
      obtain ⟨c5, c4⟩ := ba q
      exact s_sts c5 (sE o ck _ X g h.x c3) (sE i ck _ X g h.x c2) (sE e ck _ X g h.x c1) (sub_plain (sub_match c4))
    · cases ok
  | .ex e, ck, x, X, g, h, ok => by
    simp only [okS] at ok
    split at ok
    · obtain ⟨c1, c2⟩ := ba ok
      exact s_ex c1 (sE e ck _ X g h.x c2)
    · cases ok
  | .ret e, ck, x, X, g, h, ok => by
    simp only [okS] at ok
    split at ok
    · exact s_ret (sE e ck _ X g h.x ok)
    · cases ok
  | .retN, ck, x, X, g, h, ok => by
    simp only [okS] at ok
    split at ok
    · exact s_retN
    · cases ok
  | .ite t a b, ck, x, X, g, h, ok => by
    simp only [okS] at ok
    split at ok
    · obtain ⟨q, c1⟩ := ba ok
      obtain ⟨c3, c2⟩ := ba q
      exact s_if (sT t ck _ X g h.x c3) (sSs a ck _ X g h c2) (sSs b ck _ X g h c1)
    · cases ok
  | .whl t b, ck, x, X, g, h, ok => by
    simp only [okS] at ok
    split at ok
    · obtain ⟨c1, c2⟩ := ba ok
      exact s_whl h.pass (sT t ck _ X g h.x c1) (sSs b ck _ X g h c2)
    · cases ok
  | .for p it b, ck, x, X, g, h, ok => by
    simp only [okS] at ok
    split at ok
    · obtain ⟨q, c1⟩ := ba ok
      obtain ⟨q, c2⟩ := ba q
      obtain ⟨c4, c3⟩ := ba q
      exact s_for h.pass h.x.calm (sI it ck _ _ X g h.x c3) (sP p _ h.x c2) (sSs b ck _ X g h c1) (notSet_ok c4 _)
    · cases ok
  | .rai k e, ck, x, X, g, h, ok => by
    simp only [okS] at ok
    split at ok
    · obtain ⟨q, c1⟩ := ba ok
      obtain ⟨q, c2⟩ := ba q
      obtain ⟨q, c3⟩ := ba q
      obtain ⟨c5, c4⟩ := ba q
      obtain ⟨fI, fd, e1, e2, e3⟩ := h.errX
      obtain ⟨d1, d2⟩ := h.cnm k _ (decT c5)
      exact s_rai h.x.calm h.x.is.tk e1 d1 e3 h.room e2 (h.x.gl c4) (by rw [h.x.is.mg, h.x.is.cl]; exact d2) (okNm_ok c3).1 (one_star c2) (sE e ck _ X g h.x c1)
    · cases ok
  | .try b hs, ck, x, X, g, h, ok => by
    simp only [okS] at ok
    split at ok
    · rename_i h₀ hds _
      split at ok
      · obtain ⟨q, c1⟩ := ba ok
        obtain ⟨q, c2⟩ := ba q
        obtain ⟨q, c3⟩ := ba q
        obtain ⟨c5, c4⟩ := ba q
        have hi := decT c5
        rw [← h.x.N] at hi
        obtain ⟨fI, fd, e1, e2, e3⟩ := h.errX
        exact s_try h.stk h.frm (by rw [h.x.N]; exact h.x.nd) h.x.is.tk e1 (List.getElem?_eq_some_iff.mp hi).1 (okH_tagged h c2) (fun W pn xe tk ps => sSs b ck _ (X.tr pn xe) (g.wish X.N.length W) (h.tr tk ps) c1) (okH_hds h hi c4 c3 c2)
      · cases ok
    · cases ok
  | .brk, ck, x, X, g, h, ok => by
    simp only [okS] at ok
    split at ok
    · exact s_brk
    · cases ok
  | .cnt, ck, x, X, g, h, ok => by
    simp only [okS] at ok
    split at ok
    · exact s_cnt
    · cases ok
  | .pas, ck, x, X, g, h, ok => by
    simp only [okS] at ok
    split at ok
    · exact s_pas
    · cases ok
theorem sSs : ∀ (s : Ss) (ck : Ck) (xs : List Stmt) (X : L2.Cx) (g : Gc), XOkS S sub X g ck n → okSs s ck xs = true → PSs X xs (tSs g X sub s)
  | .nil, ck, xs, X, g, h, ok => by
    simp only [okSs] at ok
    cases xs with
    | nil => exact ss_nil
    | cons _ _ => cases ok
  | .cons s r, ck, xs, X, g, h, ok => by
    simp only [okSs] at ok
    split at ok
    · obtain ⟨c1, c2⟩ := ba ok
      exact ss_cons (sS s ck _ X g h c1) (sSs r ck _ X g h c2)
    · cases ok
end
end
end Ev

end
section
set_option Elab.async false
set_option linter.all false
set_option maxRecDepth 100000
set_option autoImplicit false
set_option maxHeartbeats 4000000
/-! EvT: a def's call. -/
namespace Ev
open PySem PySem.Spec PyProof.Rows L2
section
variable {K : KZ} {ρ ρ1 ρ2 : List Addr} {H H1 : Hp} {M : Nat → Prop} {st sty : Sto} {n0 : Nat}
mutual
/-- plain data with fewer cells -/
theorem Rep.sub (h : ∀ a ∈ ρ2, a ∈ ρ1) : ∀ (d : D) (v : V), d.pure = true → Rep K ρ1 H d v → Rep K ρ2 H d v
  | .no, _, _, r => r
  | .non, _, _, r => r
  | .bl _, _, _, r => r
  | .int _, _, _, r => r
  | .str _, _, _, r => r
  | .tup ds, v, p, r => by
    simp only [D.pure] at p
    simp only [Rep] at r ⊢
    obtain ⟨a, vs, e, t, l, q⟩ := r
    refine ⟨a, vs, e, ?_, l, Reps.sub h ds vs p q⟩
    rcases t with ⟨m, z, t⟩ | t
    · exact .inl ⟨fun w => m (h a w), z, t⟩
    · exact .inr t
  | .lst ds, v, p, r => by
    simp only [D.pure] at p
    simp only [Rep] at r ⊢
    obtain ⟨a, vs, e, t, l, q⟩ := r
    exact ⟨a, vs, e, ⟨fun w => t.1 (h a w), t.2⟩, l, Reps.sub h ds vs p q⟩
  | .set _, _, _, r => r
  | .scr ds, v, p, r => by
    simp only [D.pure] at p
    simp only [Rep] at r ⊢
    obtain ⟨a, vs, e, t, l, q⟩ := r
    refine ⟨a, vs, e, ?_, l, Reps.sub h ds vs p q⟩
    rcases t with ⟨m, z, t⟩ | t
    · exact .inl ⟨fun w => m (h a w), z, t⟩
    · exact .inr t
  | .dic ks vs, v, p, r => by
    simp only [D.pure] at p
    simp only [Rep] at r ⊢
    obtain ⟨a, xs, us, e, h1, h2, h3, h4, h5, h6, h7⟩ := r
    exact ⟨a, xs, us, e, ⟨fun z => h1.1 (h a z), h1.2⟩, h2, h3, h4, Reps.sub h ks _ (ba p).1 h5, h6, Reps.sub h vs us (ba p).2 h7⟩
  | .ref _, _, p, _ => by simp [D.pure] at p
  | .lam _ _, _, p, _ => by simp [D.pure] at p
  | .fn _, _, _, r => r
  | .ty _, _, _, r => r
theorem Reps.sub (h : ∀ a ∈ ρ2, a ∈ ρ1) : ∀ (ds : List D) (vs : List V), pures ds = true → Reps K ρ1 H ds vs → Reps K ρ2 H ds vs
  | [], _, _, r => r
  | d :: ds, vs, p, r => by
    simp only [pures] at p
    simp only [Reps] at r ⊢
    obtain ⟨v, w, e, h1, h2⟩ := r
    exact ⟨v, w, e, Rep.sub h d v (ba p).1 h1, Reps.sub h ds w (ba p).2 h2⟩
end
mutual
/-- the first cells stay, the others may go -/
theorem Rep.move {n : Nat} (h : ∀ a ∈ ρ2, a ∈ ρ1) (hx : ∀ i, i < n → ρ2[i]? = ρ1[i]?) : ∀ (d : D) (v : V), d.upTo n = true → Rep K ρ1 H d v → Rep K ρ2 H d v
  | .no, _, _, r => r
  | .non, _, _, r => r
  | .bl _, _, _, r => r
  | .int _, _, _, r => r
  | .str _, _, _, r => r
  | .tup ds, v, p, r => by
    simp only [D.upTo] at p
    simp only [Rep] at r ⊢
    obtain ⟨a, vs, e, t, l, q⟩ := r
    refine ⟨a, vs, e, ?_, l, Reps.move h hx ds vs p q⟩
    rcases t with ⟨m, z, t⟩ | t
    · exact .inl ⟨fun w => m (h a w), z, t⟩
    · exact .inr t
  | .lst ds, v, p, r => by
    simp only [D.upTo] at p
    simp only [Rep] at r ⊢
    obtain ⟨a, vs, e, t, l, q⟩ := r
    exact ⟨a, vs, e, ⟨fun w => t.1 (h a w), t.2⟩, l, Reps.move h hx ds vs p q⟩
  | .set _, _, _, r => r
  | .scr ds, v, p, r => by
    simp only [D.upTo] at p
    simp only [Rep] at r ⊢
    obtain ⟨a, vs, e, t, l, q⟩ := r
    refine ⟨a, vs, e, ?_, l, Reps.move h hx ds vs p q⟩
    rcases t with ⟨m, z, t⟩ | t
    · exact .inl ⟨fun w => m (h a w), z, t⟩
    · exact .inr t
  | .dic ks vs, v, p, r => by
    simp only [D.upTo] at p
    simp only [Rep] at r ⊢
    obtain ⟨a, xs, us, e, h1, h2, h3, h4, h5, h6, h7⟩ := r
    exact ⟨a, xs, us, e, ⟨fun z => h1.1 (h a z), h1.2⟩, h2, h3, h4, Reps.move h hx ks _ (ba p).1 h5, h6, Reps.move h hx vs us (ba p).2 h7⟩
  | .ref k, v, p, r => by
    simp only [D.upTo] at p
    simp only [Rep] at r ⊢
    obtain ⟨a, e, t⟩ := r
    exact ⟨a, e, by rw [hx k (by simpa using p)]; exact t⟩
  | .lam k cap, v, p, r => by
    simp only [D.upTo] at p
    simp only [Rep] at r ⊢
    obtain ⟨f, c', σ, e, h1, h2, h3, h4, h5⟩ := r
    exact ⟨f, c', σ, e, h1, fun z => h2 (h c' z), h3, h4, RepE.move h hx cap σ p h5⟩
  | .fn _, _, _, r => r
  | .ty _, _, _, r => r
theorem RepE.move {n : Nat} (h : ∀ a ∈ ρ2, a ∈ ρ1) (hx : ∀ i, i < n → ρ2[i]? = ρ1[i]?) : ∀ (ds : List D) (σ : List (Option V)), upTos n ds = true → RepE K ρ1 H ds σ → RepE K ρ2 H ds σ
  | [], _, _, r => r
  | d :: ds, σ, p, r => by
    simp only [upTos] at p
    simp only [RepE] at r ⊢
    obtain ⟨o, w, e, h1, h2⟩ := r
    refine ⟨o, w, e, ?_, RepE.move h hx ds w (ba p).2 h2⟩
    rcases h1 with h1 | ⟨v, h1, h3⟩
    · exact .inl h1
    · exact .inr ⟨v, h1, Rep.move h hx d v (ba p).1 h3⟩
theorem Reps.move {n : Nat} (h : ∀ a ∈ ρ2, a ∈ ρ1) (hx : ∀ i, i < n → ρ2[i]? = ρ1[i]?) : ∀ (ds : List D) (vs : List V), upTos n ds = true → Reps K ρ1 H ds vs → Reps K ρ2 H ds vs
  | [], _, _, r => r
  | d :: ds, vs, p, r => by
    simp only [upTos] at p
    simp only [Reps] at r ⊢
    obtain ⟨v, w, e, h1, h2⟩ := r
    exact ⟨v, w, e, Rep.move h hx d v (ba p).1 h1, Reps.move h hx ds w (ba p).2 h2⟩
end
theorem CellRep.move {n : Nat} {a : Addr} {c : Cell} (h : ∀ a ∈ ρ2, a ∈ ρ1) (hx : ∀ i, i < n → ρ2[i]? = ρ1[i]?) (u : c.upTo n = true) (r : CellRep K ρ1 H a c) : CellRep K ρ2 H a c := by
  cases c with
  | lst ds =>
    obtain ⟨vs, h1, h2, h3⟩ := r
    exact ⟨vs, h1, h2, Reps.move h hx _ _ u h3⟩
  | dic _ => exact r.elim
  | set _ => exact r.elim
  | ins _ _ => exact r.elim
theorem mapO_reps {f : D → Option D} (hf : ∀ d d' v, f d = some d' → Rep K ρ1 H d v → Rep K ρ2 H d' v) : ∀ (ds ds' : List D) (vs : List V), mapO f ds = some ds' → Reps K ρ1 H ds vs → Reps K ρ2 H ds' vs
  | [], ds', vs, e, r => by
    cases mapO_nil e
    cases repsN r
    exact Reps.nil
  | d :: ds, ds', vs, e, r => by
    obtain ⟨d1, r1, e1, e2, rfl⟩ := mapO_cons e
    obtain ⟨v, w, rfl, h1, h2⟩ := repsC r
    exact Reps.cons (hf _ _ _ e1 h1) (mapO_reps hf ds r1 w e2 h2)
/-- the young lists stand still from now on -/
theorem rdY_ok (rs : RelSt K ρ1 H M st) (h : ∀ a ∈ ρ2, a ∈ ρ1) (hy : ∀ j ds, sty[j]? = some (.lst ds) → n0 ≤ j → st[j]? = some (.lst ds) ∧ ∀ a, ρ1[j]? = some a → a ∉ ρ2) : ∀ (f : Nat) (d d' : D) (v : V), rdY n0 sty f d = some d' → Rep K ρ1 H d v → Rep K ρ2 H d' v
  | 0, d, d', v, e, r => by
    simp only [rdY] at e
    cases p : d.pure with
    | false =>
      rw [p] at e
      cases e
    | true =>
      rw [p] at e
      cases e
      exact Rep.sub h _ _ p r
  | f + 1, d, d', v, e, r => by
    simp only [rdY] at e
    cases p : d.pure with
    | true =>
      rw [p] at e
      cases e
      exact Rep.sub h _ _ p r
    | false =>
      rw [p] at e
      simp only [cond_false] at e
      have ih := rdY_ok rs h hy f
      split at e
      · rename_i n
        split at e
        · rename_i ds e1 e2
          obtain ⟨es, e3, rfl⟩ := Option.map_eq_some_iff.mp e
          obtain ⟨h1, h2⟩ := hy n ds e2 (Nat.ble_eq.mp e1)
          obtain ⟨a, vs, rfl, q2, q3, q4, q5⟩ := cell_of rs r h1
          simp only [Rep]
          exact ⟨a, vs, rfl, ⟨h2 a q2, fun z => (rs.rsv a z).1 (List.mem_of_getElem? q2), q3⟩, q4, mapO_reps ih _ _ _ e3 q5⟩
        · cases e
      · obtain ⟨es, e3, rfl⟩ := Option.map_eq_some_iff.mp e
        obtain ⟨a, vs, rfl, q1, q2, q3⟩ := rep_tup r
        simp only [Rep]
        refine ⟨a, vs, rfl, ?_, q2, mapO_reps ih _ _ _ e3 q3⟩
        rcases q1 with ⟨m, z, t⟩ | t
        · exact .inl ⟨fun w => m (h a w), z, t⟩
        · exact .inr t
      · obtain ⟨es, e3, rfl⟩ := Option.map_eq_some_iff.mp e
        obtain ⟨a, vs, rfl, q1, q2, q3⟩ := rep_lst r
        simp only [Rep]
        exact ⟨a, vs, rfl, ⟨fun w => q1.1 (h a w), q1.2⟩, q2, mapO_reps ih _ _ _ e3 q3⟩
      · cases e
theorem take_sub {n : Nat} : ∀ a ∈ ρ1.take n, a ∈ ρ1 := fun a m => List.mem_of_mem_take m
theorem nd_take (rs : RelSt K ρ1 H M st) {j n : Nat} (hj : n ≤ j) {a : Addr} (e : ρ1[j]? = some a) : a ∉ ρ1.take n := fun m => by
  obtain ⟨i, hi⟩ := List.getElem?_of_mem m
  rw [List.getElem?_take] at hi
  split at hi
  · have := rs.inj hi e
    omega
  · cases hi
/-- a value handed back -/
theorem fin_ok {Er : Nat → D → List Addr → Hp → Prop} {own : Bool} {d : D} {v : V} {Q : VK} (h : Out K M (Rep K) Er ρ H (fin n0 own d st) Q) (hn : ρ.length ≤ n0) (hM : ∀ m, M m → m ≤ n0) (s : Step ρ H ρ1 H1) (rs : RelSt K ρ1 H1 (fun m => M m ∨ m = n0) st) (r : Rep K ρ1 H1 d v) : Q v H1 := by
  have sc := Step.cut (n := n0) s hn
  have rl := RelSt.leave (st1 := st) rs hM
  unfold fin at h
  cases p : d.pure with
  | true =>
    rw [p] at h
    exact h v _ _ sc rl (Rep.sub take_sub _ _ p r)
  | false =>
    rw [p] at h
    simp only [cond_false] at h
    split at h
    · rename_i k
      split at h
      · rename_i hk
        have hk' : k < n0 := by
          by_cases q : k < n0
          · exact q
          · have q2 : Nat.ble n0 k = true := Nat.ble_eq.mpr (by omega)
            rw [hk] at q2
            cases q2
        exact h v _ _ sc rl (Rep.cut n0 _ _ (by simp only [D.upTo]; simpa using hk') r)
      · rename_i hk
        have hk' : n0 ≤ k := Nat.ble_eq.mp hk
        split at h
        · rename_i ds hc
          obtain ⟨a, vs, rfl, q2, q3, q4, q5⟩ := cell_of rs r hc
          cases own with
          | false =>
            simp only [cond_false] at h
            split at h
            · rename_i ds' e
              refine h _ _ _ sc rl ?_
              simp only [Rep]
              exact ⟨a, vs, rfl, ⟨nd_take rs hk' q2, fun z => (rs.rsv a z).1 (List.mem_of_getElem? q2), q3⟩, q4, mapO_reps (fun d d' v e r => rdY_ok rs take_sub (fun j ds e hj => ⟨e, fun a e => nd_take rs hj e⟩) _ _ _ _ e r) _ _ _ e q5⟩
            · exact h.elim
          | true =>
            simp only [cond_true] at h
            split at h
            · rename_i ds' e
              have hkl : k < st.length := (List.getElem?_eq_some_iff.mp hc).1
              have hle : n0 ≤ st.length := (rs.old n0 (.inr rfl)).1
              have hsub : ∀ b ∈ ρ1.take n0 ++ [a], b ∈ ρ1 := fun b m => by
                rcases List.mem_append.mp m with m | m
                · exact List.mem_of_mem_take m
                · rw [List.mem_singleton.mp m]
                  exact List.mem_of_getElem? q2
              have ha := nd_take rs hk' q2
              have hlen : (ρ1.take n0).length = n0 := by
                rw [List.length_take, rs.len]
                omega
              have hr : Reps K (ρ1.take n0 ++ [a]) H1 ds' vs := mapO_reps (fun d d' v e r => rdY_ok rs hsub (fun j es e hj => by
                by_cases hjk : j = k
                · rw [hjk, List.getElem?_set_self hkl] at e
                  cases e
                · rw [List.getElem?_set_ne (Ne.symm hjk)] at e
                  refine ⟨e, fun b eb m => ?_⟩
                  rcases List.mem_append.mp m with m | m
                  · exact nd_take rs hj eb m
                  · rw [List.mem_singleton.mp m] at eb
                    exact hjk (rs.inj eb q2)) _ _ _ _ e r) _ _ _ e q5
              refine h _ (ρ1.take n0 ++ [a]) _ ⟨?_, fun b o hb nb nt => ?_⟩ ?_ ?_
              · exact sc.1.trans (List.prefix_append _ _)
              · obtain ⟨g1, g2⟩ := s.2 b o hb nb nt
                exact ⟨g1, fun m => g2 (hsub b m)⟩
              · refine ⟨fun m hm => ?_, ?_, ?_, fun z hz => ⟨fun m => (rs.rsv z hz).1 (hsub z m), (rs.rsv z hz).2⟩, fun p hp => (rs.tab p hp).of fun b o eb nb _ => ⟨eb, fun m => nb (hsub b m), id⟩, fun i c hc' => ?_⟩
                · obtain ⟨g1, g2⟩ := rl.old m hm
                  refine ⟨by rw [List.length_append]; omega, fun i c hi hc' => g2 i c hi ?_⟩
                  rw [List.getElem?_append_left (by omega)] at hc'
                  exact hc'
                · rw [List.length_append, List.length_append, rl.len]
                  rfl
                · refine List.nodup_append.mpr ⟨rl.nd, by simp, fun x hx y hy e => ?_⟩
                  rw [List.mem_singleton.mp hy] at e
                  exact ha (e ▸ hx)
                · by_cases hi : i < n0
                  · rw [List.getElem?_append_left (by rw [List.length_take]; omega), List.getElem?_take_of_lt hi] at hc'
                    obtain ⟨b, g1, g2⟩ := rs.cell i c hc'
                    refine ⟨b, by rw [List.getElem?_append_left (by omega), List.getElem?_take_of_lt hi]; exact g1, g2.move (n := n0) hsub (fun j hj => ?_) ((rs.old n0 (.inr rfl)).2 i c hi hc')⟩
                    rw [List.getElem?_append_left (by omega), List.getElem?_take_of_lt hj]
                  · have hi2 : i = n0 := by
                      have := (List.getElem?_eq_some_iff.mp hc').1
                      simp only [List.length_append, List.length_take, List.length_singleton] at this
                      omega
                    subst hi2
                    rw [List.getElem?_append_right (by rw [List.length_take]; omega)] at hc'
                    have e0 : i - (st.take i).length = 0 := by rw [List.length_take]; omega
                    rw [e0] at hc'
                    cases hc'
                    exact ⟨a, by rw [List.getElem?_append_right (by omega), hlen]; simp, vs, q3, q4, hr⟩
              · simp only [Rep]
                exact ⟨a, rfl, by rw [List.getElem?_append_right (by omega), hlen]; simp⟩
            · exact h.elim
        · rename_i kvs hc
          obtain ⟨_, _, q⟩ := rs.cell _ _ hc
          exact q.elim
        · exact h.elim
    · split at h
      · rename_i d' e
        exact h v _ _ sc rl (rdY_ok rs take_sub (fun j ds e hj => ⟨e, fun a e => nd_take rs hj e⟩) _ _ _ _ e r)
      · exact h.elim
end
end Ev

end
section
set_option Elab.async false
set_option linter.all false
set_option maxRecDepth 100000
set_option autoImplicit false
set_option maxHeartbeats 4000000
/-! EvU: all defs, by depth. -/
namespace Ev
open PySem PySem.Spec PyProof.Rows L2
theorem repE_none {K : KZ} {ρ : List Addr} {H : Hp} : ∀ n : Nat, RepE K ρ H (List.replicate n .no) (List.replicate n none)
  | 0 => by simp [RepE]
  | n + 1 => by
    rw [List.replicate_succ, List.replicate_succ]
    simp only [RepE]
    exact ⟨_, _, rfl, .inl trivial, repE_none n⟩
theorem repE_start {K : KZ} {ρ : List Addr} {H : Hp} (n : Nat) : ∀ {ds : List D} {vs : List V}, Reps K ρ H ds vs → RepE K ρ H (ds ++ List.replicate n .no) (vs.map some ++ List.replicate n none)
  | [], vs, r => by
    cases repsN r
    exact repE_none n
  | d :: ds, vs, r => by
    obtain ⟨v, w, rfl, h1, h2⟩ := repsC r
    simp only [List.cons_append, List.map_cons, RepE]
    exact ⟨_, _, rfl, .inr ⟨v, rfl, h1⟩, repE_start n h2⟩
/-- a def of the text: where it stands, what it is -/
structure DefAt (S : Stt) (fa : Addr) (N ps : List Str) (scope : Scope) (body : List Stmt) (lk : List Nat) : Prop where
  ex : ∃ (name qual : Str) (params : Arguments) (dV kV doc pm cdv ct oc : Value) (an od : Option Addr) (osl : Array (Option Value)),
    S.K.lookup fa = some ⟨oc, od, .func (PySem.W.fnOf name qual params body scope dV kV doc pm an cdv ct), osl⟩ ∧ PySem.W.codeIn S.K cdv qual = true ∧ Binds S.K (PySem.W.fnOf name qual params body scope dV kV doc pm an cdv ct) ps [] ∧ (∀ ks perm, S.kw fa ks perm → KwB S.K (PySem.W.fnOf name qual params body scope dV kV doc pm an cdv ct) ps ks perm) ∧
    ∀ k ∈ lk, ∃ c P, (c, P) ∈ S.TB ∧ cdv = .ref c ∧ S.q k = qual ++ ".<locals>." ++ "<lambda>" ∧ (P, S.q k) ∈ S.T ∧ ∀ p ∈ S.T, p.1 = P → p.2 = S.q k
  sc : FnScope N ps scope
  pseq : ps = S.ps fa
/-- within a lambda stands no lambda -/
def Tab.nolam (tb : Tab) : Tab := { tb with lam := fun _ _ _ _ => false }
/-- the static facts of a law's program -/
structure Fx (S : Stt) (P : Prog) (tb : Tab) : Prop where
  blt : ∀ x ∈ bltL, S.mg x = none
  glo : ∀ k x d, tb.gnm k = some x → P.glo k = some d → ∃ v u, S.mg x = some u ∧ RelV v u ∧ Sure S.fw d v
  err : ∃ (fI : Addr) (fd : FuncData), ErrC S.K S.cl P.sub fI ∧ Binds S.K fd ["self", "what"] [] ∧ ∀ base, FnOk S.P S.w S.K S.mg base (CX S.P S.w) 1 fI fd ["self", "what"] (spInit S.K)
  cnm : ∀ k x, tb.cnm k = some x → P.sub k k = true ∧ S.mg x = some (.ref (S.cl k))
  defs : ∀ f x, tb.fnm f = some x → ∃ (fa : Addr) (d : Def) (N ps : List Str) (scope : Scope) (body : List Stmt) (lk : List Nat), S.mg x = some (.ref fa) ∧ PySem.W.keepIn S.K (.ref fa) = true ∧ P.defs f = some d ∧ DefAt S fa N ps scope body lk ∧ d.ps = ps.length ∧ d.n = N.length ∧
    okSs d.body ⟨N, scope, fun _ => true, tb, lk⟩ body = true
  okl : ∀ k N sc b, tb.lam k N sc b = true → S.okl k N sc b = true
  kw : ∀ f x fa ks perm, tb.fnm f = some x → S.mg x = some (.ref fa) → tb.kw f ks perm = true → S.kw fa ks perm
  lams : ∀ k N sc b, S.okl k N sc b = true → ∃ e, P.lams k = some ([], e) ∧ okE e ⟨N, sc, fun _ => false, tb.nolam, []⟩ b = true
section
variable {S : Stt} {P : Prog} {tb : Tab}
/-- one def, its callees by the depth below -/
theorem def_step {n f : Nat} {d : Def} {fa : Addr} {N ps : List Str} {scope : Scope} {body : List Stmt} {lk : List Nat} (F : Fx S P tb) (hd : P.defs f = some d) (D0 : DefAt S fa N ps scope body lk) (hps : d.ps = ps.length) (hdn : d.n = N.length) (ok : okSs d.body ⟨N, scope, fun _ => true, tb, lk⟩ body = true) (ihl : CloV S (n + 2) fun k cap ds st => go P n (.lam k cap) ds st)
    (ih : ∀ f x, tb.fnm f = some x → ∃ fa, S.mg x = some (.ref fa) ∧ PySem.W.keepIn S.K (.ref fa) = true ∧ FnV S (n + 2) fa (fun ds st => go P n (.fn f) ds st)) : FnV S (n + 3) fa (fun ds st => go P (n + 1) (.fn f) ds st) := by
  obtain ⟨name, qual, params, dV, kV, doc, pm, cdv, ct, oc, an, od, osl, lkp, hcd, hb, hkb, hlk⟩ := D0.ex
  have hlen : ∀ ds st, go P (n + 1) (.fn f) ds st ≠ .no → ds.length = ps.length := fun ds st h => by
    rw [go, hd] at h
    dsimp only at h
    cases c : d.ps == ds.length with
    | false =>
      rw [c] at h
      exact absurd rfl h
    | true => rw [← hps, eq_of_beq c]
  refine ⟨_, ps, D0.pseq, ⟨_, _, _, lkp⟩, hb, hkb, hlen, fun base A outer s H args us vs Q E hr e0 htb hbt r hsp => ?_⟩
  obtain ⟨clo, M, l, ρ, st, ds, hcb, hM, rs, rd, h⟩ := hsp
  have hl : ds.length = ps.length := hlen ds st (no_of_out h)
  have hvl : vs.length = ps.length := by rw [rd.length, hl]
  refine LamX.run_ofS (k := n + 2) (CX := CX S.P S.w) lkp hcd D0.sc hr e0 hbt r hvl fun hr' => ?_
  -- the evaluator's context
  let g : Gc := ⟨⟨st.length, fun f => go P n (.fn f), fun i cap => go P n (.lam i cap), P.glo⟩, fun m => M m ∨ m = st.length, E, S.cl, S.T, S.q, clo, fun m hm => hm.elim (hM m) (fun e => Nat.le_of_eq e)⟩
  have X0 : XOkS S P.sub (cxOf (CX S.P S.w) S.P S.w S.K S.mg base N qual scope fa cdv A outer s H E) g ⟨N, scope, fun _ => true, tb, lk⟩ (n + 2) := {
    x := ⟨⟨rfl, rfl, rfl, rfl, rfl, rfl, rfl, hcb, htb, takes_of rfl rfl rfl rfl⟩, rfl, rfl, rfl, fun _ h => h, D0.sc.nd, D0.sc.kind, hr', F.blt, F.glo, ih, ihl, fun k hk => by
      obtain ⟨c, P0, q1, q2, q3, q4, q5⟩ := hlk k hk
      exact ⟨⟨c, P0, htb _ q1, q2, q3, q4, q5⟩, rfl, rfl, fun _ => rfl⟩, F.okl, F.kw⟩
    pass := passes_of rfl
    stk := rfl
    frm := rfl
    room := hr'.mono (by omega)
    err := F.err
    cnm := F.cnm }
  refine ⟨_, sSs d.body _ body _ g X0 ok, l, ρ, ds ++ List.replicate (d.n - ds.length) .no, st, rs.enter, ?_, ?_⟩
  · have := repE_start (N.length - vs.length) rd
    unfold L2.start
    rw [hdn, ← rd.length]
    exact this
  · replace h : Out (S.z l clo) M (Rep (S.z l clo)) (ErS S.cl E (S.z l clo)) ρ H (go P (n + 1) (.fn f) ds st) Q := h
    rw [go, hd] at h
    dsimp only at h
    rw [show (d.ps == ds.length) = true from by rw [hps, hl]; exact beq_self_eq_true _] at h
    simp only [cond_true] at h
    unfold runDef at h
    show FOut g _ l ρ H _ (evSs g.c P.sub d.body (ds ++ List.replicate (d.n - ds.length) .no) st)
    have hlen2 : ρ.length ≤ st.length := Nat.le_of_eq rs.len
    cases e : evSs g.c P.sub d.body (ds ++ List.replicate (d.n - ds.length) .no) st with
    | rt v st' =>
      rw [show evSs ⟨st.length, fun f => go P n (.fn f), fun i cap => go P n (.lam i cap), P.glo⟩ P.sub d.body (ds ++ List.replicate (d.n - ds.length) .no) st = .rt v st' from e] at h
      intro v' ρ' H' s' rs' r'
      exact fin_ok (n0 := st.length) h hlen2 hM s' rs' r'
    | nx env' st' =>
      rw [show evSs ⟨st.length, fun f => go P n (.fn f), fun i cap => go P n (.lam i cap), P.glo⟩ P.sub d.body (ds ++ List.replicate (d.n - ds.length) .no) st = .nx env' st' from e] at h
      intro ρ' H' σ' s' rs' r'
      exact h .non _ _ (Step.cut s' hlen2) (RelSt.leave (st1 := st') rs' hM) mk_non
    | er k w env' st' =>
      rw [show evSs ⟨st.length, fun f => go P n (.fn f), fun i cap => go P n (.lam i cap), P.glo⟩ P.sub d.body (ds ++ List.replicate (d.n - ds.length) .no) st = .er k w env' st' from e] at h
      dsimp only at h
      intro ρ' H' s' rs' dx v hdx edx rw_
      cases p : w.pure with
      | false =>
        rw [p] at h
        exact h.elim
      | true =>
        rw [p] at h
        exact h _ _ (Step.cut s' hlen2) (RelSt.leave (st1 := st') rs' hM) dx v (fun m => hdx (List.mem_of_mem_take m)) edx (Rep.sub take_sub _ _ p rw_)
    | bk env' st' =>
      rw [show evSs ⟨st.length, fun f => go P n (.fn f), fun i cap => go P n (.lam i cap), P.glo⟩ P.sub d.body (ds ++ List.replicate (d.n - ds.length) .no) st = .bk env' st' from e] at h
      exact h.elim
    | ct env' st' =>
      rw [show evSs ⟨st.length, fun f => go P n (.fn f), fun i cap => go P n (.lam i cap), P.glo⟩ P.sub d.body (ds ++ List.replicate (d.n - ds.length) .no) st = .ct env' st' from e] at h
      exact h.elim
    | no =>
      rw [show evSs ⟨st.length, fun f => go P n (.fn f), fun i cap => go P n (.lam i cap), P.glo⟩ P.sub d.body (ds ++ List.replicate (d.n - ds.length) .no) st = .no from e] at h
      exact h.elim
/-- closures, by the depth below -/
theorem clo_step {n : Nat} (F : Fx S P tb) (ihl : CloV S (n + 2) fun k cap ds st => go P n (.lam k cap) ds st)
    (ih : ∀ f x, tb.fnm f = some x → ∃ fa, S.mg x = some (.ref fa) ∧ PySem.W.keepIn S.K (.ref fa) = true ∧ FnV S (n + 2) fa (fun ds st => go P n (.fn f) ds st)) : CloV S (n + 3) fun k cap ds st => go P (n + 1) (.lam k cap) ds st := by
  intro k cap base f c' σm clo M l ρ st A outer s H Q E cb hcb htb rs re hco hr e0 h
  replace h : Out (S.z l clo) M (Rep (S.z l clo)) (ErS S.cl E (S.z l clo)) ρ H (go P (n + 1) (.lam k cap) [] st) Q := h
  have hM : ∀ m, M m → m ≤ st.length := fun m hm => (rs.old m hm).1
  refine clo_run (n := n + 2) cb hco hr e0 fun N body scope cells ok1 nd hk hr' => ?_
  obtain ⟨e, hl, ok⟩ := F.lams _ _ _ _ ok1
  let g : Gc := ⟨⟨st.length, fun f => go P n (.fn f), fun i cap => go P n (.lam i cap), P.glo⟩, fun m => M m ∨ m = st.length, E, S.cl, S.T, S.q, clo, fun m hm => hm.elim (hM m) (fun e => Nat.le_of_eq e)⟩
  have X0 : XOk S (lcx S base N A outer s H E (S.q k) scope cells f c') g ⟨N, scope, fun _ => false, tb.nolam, []⟩ (n + 2) := ⟨⟨rfl, rfl, rfl, rfl, rfl, rfl, rfl, hcb, htb, takes_of rfl rfl rfl rfl⟩, rfl, rfl, rfl, fun _ h => h, nd, hk, hr', F.blt, F.glo, ih, ihl, fun k hk => absurd (show k ∈ ([] : List Nat) from hk) (by simp), fun _ _ _ _ h => (nomatch h), F.kw⟩
  refine ⟨_, sE e _ body _ g X0 ok, l, ρ, cap, st, rs.enter, re, ?_⟩
  rw [go, hl] at h
  dsimp only at h
  unfold runLam at h
  simp only [sets] at h
  show Out (g.k _ l) g.M (Rep (g.k _ l)) (ErX g (g.k _ l)) ρ H (evE g.c e cap st) Q
  have hlen2 : ρ.length ≤ st.length := Nat.le_of_eq rs.len
  cases q : evE g.c e cap st with
  | ok v st' =>
    rw [show evE ⟨st.length, fun f => go P n (.fn f), fun i cap => go P n (.lam i cap), P.glo⟩ e cap st = .ok v st' from q] at h
    intro v' ρ' H' s' rs' r'
    exact fin_ok (n0 := st.length) h hlen2 hM s' rs' r'
  | er k w st' =>
    rw [show evE ⟨st.length, fun f => go P n (.fn f), fun i cap => go P n (.lam i cap), P.glo⟩ e cap st = .er k w st' from q] at h
    dsimp only at h
    intro ρ' H' s' rs' dx v hdx edx rw_
    cases p : w.pure with
    | false =>
      rw [p] at h
      exact h.elim
    | true =>
      rw [p] at h
      exact h _ _ (Step.cut s' hlen2) (RelSt.leave (st1 := st') rs' hM) dx v (fun m => hdx (List.mem_of_mem_take m)) edx (Rep.sub take_sub _ _ p rw_)
  | no =>
    rw [show evE ⟨st.length, fun f => go P n (.fn f), fun i cap => go P n (.lam i cap), P.glo⟩ e cap st = .no from q] at h
    exact h.elim
/-- all defs and closures at every depth -/
theorem defs_ok (F : Fx S P tb) : ∀ (n : Nat), (∀ (f : Nat) (x : Str), tb.fnm f = some x → ∃ fa, S.mg x = some (.ref fa) ∧ PySem.W.keepIn S.K (.ref fa) = true ∧ FnV S (n + 2) fa (fun ds st => go P n (.fn f) ds st)) ∧ CloV S (n + 2) fun k cap ds st => go P n (.lam k cap) ds st
  | 0 => ⟨fun f x hx => by
    obtain ⟨fa, d, N, ps, scope, body, lk, h1, h2, h3, h4, h5, h6, h7⟩ := F.defs f x hx
    obtain ⟨name, qual, params, dV, kV, doc, pm, cdv, ct, oc, an, od, osl, lkp, hcd, hb, hkb, _⟩ := h4.ex
    refine ⟨fa, h1, h2, _, ps, h4.pseq, ⟨_, _, _, lkp⟩, hb, hkb, fun ds st h => absurd rfl h, fun base A outer s H args us vs Q E hr e0 htb hbt r hsp => ?_⟩
    obtain ⟨clo, M, l, ρ, st, ds, hcb, hM, rs, rd, h⟩ := hsp
    exact h.elim, fun k cap base f c' σm clo M l ρ st A outer s H Q E _ _ _ _ _ _ _ _ h => h.elim⟩
  | n + 1 => by
    obtain ⟨ih, ihl⟩ := defs_ok F n
    refine ⟨fun f x hx => ?_, clo_step F ihl ih⟩
    obtain ⟨fa, d, N, ps, scope, body, lk, h1, h2, h3, h4, h5, h6, h7⟩ := F.defs f x hx
    exact ⟨fa, h1, h2, def_step F h3 h4 h5 h6 h7 ihl ih⟩
end
end Ev

end
section
set_option Elab.async false
set_option linter.all false
set_option maxRecDepth 100000
set_option autoImplicit false
set_option maxHeartbeats 1000000
/-! EvV: from the defs' meaning to the law. -/
namespace Ev
open PySem L2
/-- the script as data -/
def scr (ns : List Int) : D := .scr (ns.map D.int)
theorem reps_ints {K : KZ} {ρ : List Addr} {H : Hp} : ∀ (ns : List Int), Reps K ρ H (ns.map D.int) (ns.map V.int)
  | [] => Reps.nil
  | n :: r => Reps.cons mk_int (reps_ints r)
/-- the law's promise: no closure stands yet, the store is empty -/
def spL (S : Stt) (run : List D → Sto → Rz D) : Sp := fun vs H Q E => ∃ ds, ds.length = 1 ∧ RelSt (S.z [] fun _ _ _ _ => False) [] H (fun _ => False) [] ∧ Reps (S.z [] fun _ _ _ _ => False) [] H ds vs ∧ Out (S.z [] fun _ _ _ _ => False) (fun _ => False) (Rep (S.z [] fun _ _ _ _ => False)) (ErS S.cl E (S.z [] fun _ _ _ _ => False)) [] H (run ds []) Q
theorem relSt0 {S : Stt} {H : Hp} (h : ∀ p ∈ S.T, TabR (S.z [] fun _ _ _ _ => False) [] H p.1 p.2) : RelSt (S.z [] fun _ _ _ _ => False) [] H (fun _ => False) [] :=
  ⟨fun _ h => h.elim, rfl, List.nodup_nil, fun _ h => by simp at h, h, fun n c h => by simp at h⟩
theorem tabR0 {S : Stt} {H : Hp} {P : Addr} {q : Str} (h : H P = some (.tbl #[])) : TabR (S.z [] fun _ _ _ _ => False) [] H P q := ⟨by simp, #[], h, True.intro, fun pos cv e => by cases e⟩
/-- the law by the meaning of its def -/
theorem law_at {S : Stt} {l : PySem.W.OpenLaw} {k n : Nat} {x : Str} {fa : Addr} {h : Heap} {run : List D → Sto → Rz D} {oc : Value} {od : Option Addr} {osl : Array (Option Value)} {fd : FuncData} (hP : S.P = l.prog) (hn : n ≤ sizeLine) (F : FnV S k fa run) (TBs : ∀ p ∈ S.TB, h.get? p.2 = some { cls := .none, data := .fields #[] }) (hout : ∀ p ∈ S.TB, S.K.lookup p.2 = none) (hhd : ∀ p ∈ S.TB, PySem.W.CodeHd h p.1 p.2)
    (hx : S.ps fa = [x]) (hT : ∀ p ∈ S.T, ∃ c, (c, p.1) ∈ S.TB) (lk : S.K.lookup fa = some ⟨oc, od, .func fd, osl⟩) (hb : ∀ (s : Shared) (u : Value), BindsTo s fd ⟨[u], []⟩ [(x, u)])
    (hlaw : ∀ ns : List Int, ns.length ≤ n → ∃ st, run [scr ns] [] = .ok (.bl true) st) : LamX.LawAtS l S.w S.K (CX S.P S.w) k n x S.mg fa h := by
  obtain ⟨fd', ps, hps, ⟨oc', od', osl', lk'⟩, _, _, hl, go_⟩ := F.ex
  rw [hx] at hps
  subst hps
  rw [lk] at lk'
  cases lk'
  refine ⟨fd, S.TB, spL S run, TBs, hout, hhd, hb, fun H a ns hns _ hH hS => ?_, fun base _ _ htb => ⟨fun vs H Q E ⟨ds, h1, _, h2, _⟩ => ?_, ?_⟩⟩
  · obtain ⟨st, e⟩ := hlaw ns hns
    refine ⟨[scr ns], rfl, relSt0 fun p hp => ?_, Reps.cons ?_ Reps.nil, ?_⟩
    · obtain ⟨c, hc⟩ := hT p hp
      exact tabR0 (hH _ hc)
    · simp only [scr, Rep]
      refine ⟨a, ns.map V.int, rfl, ?_, by rw [List.length_map]; exact Nat.le_trans hns hn, reps_ints ns⟩
      rcases hS with hS | hS
      · exact .inl ⟨by simp, by simp, hS⟩
      · exact .inr hS
    · rw [e]
      intro v' ρ' H' s' rs' r'
      exact rep_bl r'
  · rw [h2.length, h1]
    rfl
  · intro A outer s H args us vs Q E hr e0 hbt r hsp
    obtain ⟨ds, h1, rs, rd, h⟩ := hsp
    rw [← hP] at e0 ⊢
    exact go_ base A outer s H args us vs Q E hr e0 htb hbt r ⟨fun _ _ _ _ => False, fun _ => False, [], [], [], ds, fun _ _ _ _ h => h.elim, fun _ h => h.elim, rs, rd, h⟩
/-! ### error classes, by a Bool over the written part -/
def oexB (K : PySem.W.Frag) (C : Addr) : Bool := (match K.lookup C with
  | some ⟨.type "type", _, .cls cd, sl⟩ => (match cd.mro, sl.toList with
    | .ref C' :: bm, [_, _, _, _, some (.builtin n), _] => C' == C && n == "ValueError.__new__" && !cd.hasDel && cd.hasDict && PySem.HandSPX.refsVE bm
    | _, _ => false)
  | _ => false) && (decide (PySem.W.findIn K (.ref C) "__setattr__" = some (some (.builtin "object.__setattr__"))) && (decide (PySem.W.subIn K (.ref C) (.type "BaseException") = some true) && (decide (PySem.W.typeIn K (.ref C) = some (.type "type")) && PySem.W.keepIn K (.ref C))))
theorem oexB_ok {K : PySem.W.Frag} {C : Addr} (h : oexB K C = true) : OexC K C := by
  unfold oexB at h
  obtain ⟨q, h⟩ := ba h
  obtain ⟨h1, h⟩ := ba h
  obtain ⟨h2, h⟩ := ba h
  obtain ⟨h3, h4⟩ := ba h
  refine ⟨?_, of_decide_eq_true h1, of_decide_eq_true h2, of_decide_eq_true h3, h4⟩
  split at q
  · rename_i dd cd sl ho
    split at q
    · rename_i C' bm k0 k1 k2 k3 n k5 hm hs
      simp only [Bool.and_eq_true, beq_iff_eq, Bool.not_eq_true'] at q
      obtain ⟨⟨⟨⟨rfl, rfl⟩, hdel⟩, hdd⟩, ht⟩ := q
      obtain ⟨nm, bs, mro, ns, qn, hd, sn, sub, ab, col, del⟩ := cd
      dsimp only at hm hdel hdd
      subst hm hdel hdd
      have hsl : sl = #[k0, k1, k2, k3, some (.builtin "ValueError.__new__"), k5] := by
        obtain ⟨l⟩ := sl
        simp only at hs
        rw [hs]
      subst hsl
      exact ⟨nm, qn, ns, bs, bm, sn, sub, ab, col, dd, k0, k1, k2, k3, k5, ho, ht⟩
    · cases q
  · cases q
end Ev

end
section
set_option Elab.async false
set_option linter.all false
set_option maxRecDepth 100000
set_option autoImplicit false
set_option maxHeartbeats 1000000
/-! EvX: from a law's tables and the head's facts to the law. -/
namespace Ev
open PySem PySem.Spec PyProof.Rows L2

/-! ### constants -/
mutual
/-- the module's constant d is the value u -/
def conB (K : PySem.W.Frag) : D → Value → Bool
  | .non, u => (match u with
    | .none => true
    | _ => false)
  | .bl b, u => (match u with
    | .bool c => b == c
    | _ => false)
  | .int i, u => (match u with
    | .int j _ => decide (i = j)
    | _ => false)
  | .str x, u => (match u with
    | .str y _ => decide (x = y)
    | _ => false)
  | .tup ds, u => (match u with
    | .ref a => (match K.lookup a with
      | some ⟨.type c, _, .seq its _, _⟩ => decide (c = "tuple") && (decide (its.size ≤ sizeLine) && conBs K ds its.toList)
      | _ => false)
    | _ => false)
  | .scr ds, u => (match u with
    | .ref a => (match K.lookup a with
      | some ⟨.type c, none, .seq its _, _⟩ => decide (c = "list") && (decide (its.size ≤ sizeLine) && conBs K ds its.toList)
      | _ => false)
    | _ => false)
  | _, _ => false
def conBs (K : PySem.W.Frag) : List D → List Value → Bool
  | [], us => us.isEmpty
  | d :: ds, us => (match us with
    | u :: r => conB K d u && conBs K ds r
    | [] => false)
end
def SureS (K : Fw) (ds : List D) (vs : List V) : Prop := ∀ ζ ρ H, Reps (kz K ζ) ρ H ds vs
mutual
theorem conB_ok {F : Fw} : ∀ (d : D) (u : Value), conB F.K d u = true → ∃ v, RelV v u ∧ Sure F d v
  | .non, u, h => by
    cases u with
    | none => exact ⟨.non, rfl, fun _ _ _ => by simp [Rep]⟩
    | _ => simp [conB] at h
  | .bl b, u, h => by
    cases u with
    | bool c =>
      simp only [conB, beq_iff_eq] at h
      subst h
      exact ⟨.bl b, rfl, fun _ _ _ => by simp [Rep]⟩
    | _ => simp [conB] at h
  | .int i, u, h => by
    cases u with
    | int j t =>
      simp only [conB, decide_eq_true_eq] at h
      subst h
      exact ⟨.int i, ⟨t, rfl⟩, fun _ _ _ => by simp [Rep]⟩
    | _ => simp [conB] at h
  | .str x, u, h => by
    cases u with
    | str y t =>
      simp only [conB, decide_eq_true_eq] at h
      subst h
      exact ⟨.str x, ⟨t, rfl⟩, fun _ _ _ => by simp [Rep]⟩
    | _ => simp [conB] at h
  | .tup ds, u, h => by
    cases u with
    | ref a =>
      simp only [conB] at h
      split at h
      · rename_i c od its n sl q
        obtain ⟨h1, h2⟩ := ba h
        obtain ⟨h3, h4⟩ := ba h2
        obtain ⟨vs, rv, sv⟩ := conBs_ok (F := F) ds its.toList h4
        refine ⟨.ref a, rfl, fun ζ ρ H => ?_⟩
        simp only [Rep]
        refine ⟨a, vs, rfl, .inr ⟨_, its, n, q, congrArg Value.type (of_decide_eq_true h1), rfl, of_decide_eq_true h3, rv⟩, ?_, sv ζ ρ H⟩
        rw [rv.length]
        simpa using of_decide_eq_true h3
      · cases h
    | _ => simp [conB] at h
  | .scr ds, u, h => by
    cases u with
    | ref a =>
      simp only [conB] at h
      split at h
      · rename_i c its n sl q
        obtain ⟨h1, h2⟩ := ba h
        obtain ⟨h3, h4⟩ := ba h2
        obtain ⟨vs, rv, sv⟩ := conBs_ok (F := F) ds its.toList h4
        refine ⟨.ref a, rfl, fun ζ ρ H => ?_⟩
        simp only [Rep]
        refine ⟨a, vs, rfl, .inr ⟨_, its, n, q, congrArg Value.type (of_decide_eq_true h1), rfl, rfl, of_decide_eq_true h3, rv⟩, ?_, sv ζ ρ H⟩
        rw [rv.length]
        simpa using of_decide_eq_true h3
      · cases h
    | _ => simp [conB] at h
  | .no, u, h => by simp [conB] at h
  | .lst _, u, h => by simp [conB] at h
  | .set _, u, h => by simp [conB] at h
  | .dic _ _, u, h => by simp [conB] at h
  | .ref _, u, h => by simp [conB] at h
  | .lam _ _, u, h => by simp [conB] at h
  | .fn _, u, h => by simp [conB] at h
  | .ty _, u, h => by simp [conB] at h
theorem conBs_ok {F : Fw} : ∀ (ds : List D) (us : List Value), conBs F.K ds us = true → ∃ vs, Vals vs us ∧ SureS F ds vs
  | [], us, h => by
    cases us with
    | nil => exact ⟨[], .nil, fun _ _ _ => by simp [Reps]⟩
    | cons _ _ => simp [conBs] at h
  | d :: ds, us, h => by
    cases us with
    | nil => simp [conBs] at h
    | cons u r =>
      simp only [conBs] at h
      obtain ⟨h1, h2⟩ := ba h
      obtain ⟨v, r1, s1⟩ := conB_ok d u h1
      obtain ⟨vs, r2, s2⟩ := conBs_ok ds r h2
      refine ⟨v :: vs, .cons r1 r2, fun ζ ρ H => ?_⟩
      simp only [Reps]
      exact ⟨v, vs, rfl, s1 ζ ρ H, s2 ζ ρ H⟩
end
/-! ### how calls bind -/
def plainA (a : Arguments) : Bool := a.posonlyargs.isEmpty && a.vararg.isNone && a.kwonlyargs.isEmpty && a.kw_defaults.isEmpty && a.kwarg.isNone && a.defaults.isEmpty
def psA (a : Arguments) : List Str := a.args.map (·.arg)
theorem filterMap_cong {α β : Type} {f g : α → Option β} : ∀ {l : List α}, (∀ x ∈ l, f x = g x) → l.filterMap f = l.filterMap g
  | [], _ => rfl
  | a :: l, h => by
    rw [List.filterMap_cons, List.filterMap_cons, h a List.mem_cons_self, filterMap_cong fun x hx => h x (List.mem_cons_of_mem _ hx)]
theorem lookup_zip {α : Type} : ∀ {ps : List Str} {us : List α}, ps.Nodup → us.length = ps.length → ps.filterMap (fun n => ((ps.zip us).lookup n).map (n, ·)) = ps.zip us
  | [], [], _, _ => rfl
  | p :: ps, u :: us, hn, hl => by
    obtain ⟨h1, h2⟩ := List.nodup_cons.mp hn
    have ih := lookup_zip h2 (show us.length = ps.length by simpa using hl)
    rw [List.zip_cons_cons, List.filterMap_cons]
    simp only [List.lookup_cons, beq_self_eq_true, Option.map_some]
    rw [filterMap_cong (g := fun n => ((ps.zip us).lookup n).map (n, ·)) fun x hx => ?_, ih]
    have : (x == p) = false := by
      rw [beq_eq_false_iff_ne]
      rintro rfl
      exact h1 hx
    rw [this]
  | [], _ :: _, _, h => by simp at h
  | _ :: _, [], _, h => by simp at h
theorem lookup_zip_some {α : Type} : ∀ {ps : List Str} {us : List α}, us.length = ps.length → ∀ x ∈ ps, ((ps.zip us).lookup x).isNone = false
  | [], [], _, x, h => by simp at h
  | p :: ps, u :: us, hl, x, h => by
    rw [List.zip_cons_cons, List.lookup_cons]
    cases e : x == p with
    | true => rfl
    | false =>
      have : x ∈ ps := by
        rcases List.mem_cons.mp h with rfl | h
        · simp at e
        · exact h
      exact lookup_zip_some (by simpa using hl) x this
  | [], _ :: _, h, _, _ => by simp at h
  | _ :: _, [], h, _, _ => by simp at h
theorem bind_plain {x qual : Str} {as : List Arg} {body : List Stmt} {scope : Scope} {kV doc pm cdv ct : Value} {an : Option Addr} {us : List Value} (hn : (as.map (·.arg)).Nodup) (hl : us.length = (as.map (·.arg)).length) :
    bindArgs (PySem.W.fnOf x qual ⟨[], as, none, [], [], none, []⟩ body scope .none kV doc pm an cdv ct) ⟨us, []⟩ = pure ((as.map (·.arg)).zip us) := by
  have h1 := lookup_zip (us := us) hn hl
  have h2 : ((as.map (·.arg)).filter fun n => (((as.map (·.arg)).zip us).lookup n).isNone) = [] := by
    apply List.filter_eq_nil_iff.mpr
    intro y hy
    rw [lookup_zip_some hl y hy]
    decide
  have h3 : seqItems? Value.none = pure none := rfl
  simp only [List.length_map] at hl
  unfold bindArgs PySem.W.fnOf
  simp only [List.map_nil, List.nil_append, h3, hl, List.length_map, pure_bind]
  have h4 : List.take (as.length - (List.drop (0 - as.length) ([] : List Value)).length) (as.map (·.arg)) = as.map (·.arg) := by
    rw [List.drop_nil, List.length_nil, Nat.sub_zero, List.take_of_length_le (by simp)]
  rw [List.filterMap_map] at h1
  simp only [Option.getD_none]
  simp only [h4, h2, List.size_toArray, List.length_nil, List.isEmpty_nil]
  simp [h4, h2, h1]
/-! ### a law's tables -/
/-- one def: its number, name, slots, place at the top, lambdas -/
structure Dd where
  f : Nat
  x : Str
  N : List Str
  k : Nat
  lk : List Nat
structure Tb where
  ds : List Dd
  gs : List (Nat × Str)
  cs : List (Nat × Str)
  kws : List (Nat × List Str × List Nat)
namespace Tb
variable (B : Tb)
def fnm (i : Nat) : Option Str := (B.ds.find? (·.f == i)).map (·.x)
def gnm (i : Nat) : Option Str := (B.gs.find? (·.1 == i)).map (·.2)
def cnm (i : Nat) : Option Str := (B.cs.find? (·.1 == i)).map (·.2)
def kwq (f : Nat) (ks : List Str) (perm : List Nat) : Bool := B.kws.contains (f, ks, perm)
def t0 : Tab := ⟨B.fnm, B.gnm, B.cnm, fun _ _ _ _ => false, B.kwq⟩
def lmB (P : Prog) (k : Nat) (N : List Str) (sc : Scope) (b : Expr) : Bool := match P.lams k with
  | some ([], e) => okE e ⟨N, sc, fun _ => false, B.t0, []⟩ b
  | _ => false
def t (P : Prog) : Tab := { B.t0 with lam := B.lmB P }
def lq (d : Dd) : Str := d.x ++ ".<locals>." ++ "<lambda>"
def q (k : Nat) : Str := match B.ds.find? (fun d => d.lk.contains k) with
  | some d => lq d
  | none => ""
def ld : List Dd := B.ds.filter fun d => !d.lk.isEmpty
def tf : List He.Defn := B.ld.map fun d => (d.x, none)
end Tb
/-- the names of the parameters of the def at an address -/
def psOf (K : PySem.W.Frag) (fa : Addr) : List Str := match K.lookup fa with
  | some ⟨_, _, .func fd, _⟩ => psA fd.params
  | _ => []
def nmOf (K : PySem.W.Frag) (fa : Addr) : Str := match K.lookup fa with
  | some ⟨_, _, .func fd, _⟩ => fd.name
  | _ => ""
def stt (B : Tb) (P : Prog) (M : Program) (w : World) (K : PySem.W.Frag) (mg : Str → Option Value) : Stt where
  P := M
  w := w
  K := K
  mg := mg
  cl := fun k => He.ga K ((B.cnm k).getD "")
  TB := B.tf.map (He.cT K)
  T := B.ld.map fun d => ((He.cT K (d.x, none)).2, Tb.lq d)
  q := B.q
  okl := B.lmB P
  kw := fun fa ks perm => ∃ f x, B.fnm f = some x ∧ nmOf K fa = x ∧ (f, ks, perm) ∈ B.kws
  ps := psOf K
def initAt : He.Defn := ("Refused", some "__init__")
/-- what the head tells of the written part -/
def exB (B : Tb) (P : Prog) (K : PySem.W.Frag) : Bool := (B.cs.all fun x => oexB K (He.ga K x.2) && (xfB K (He.ga K x.2) && (He.eqO (PySem.W.findIn K (.ref (He.ga K x.2)) "what") (some none) && (He.eqO (PySem.W.findIn K (.ref (He.ga K x.2)) "__init__") (some (some (.ref (He.fAd K initAt)))) && B.cs.all fun y => decide (PySem.W.exmOne K (.ref (He.ga K x.2)) (.ref (He.ga K y.2)) = some (P.sub x.1 y.1)))))) &&
  (decide (PySem.W.typeIn K (.ref (He.fAd K initAt)) = some (.type "function")) && ((B.gs.all fun x => (match P.glo x.1, PySem.W.nsIn K mainGlobals x.2 with
    | some d, some (some u) => conB K d u
    | _, _ => false)) && decide ((B.tf.map fun p => (He.cT K p).2).Nodup)))
/-- the def's check -/
def ddB (B : Tb) (P : Prog) (top : Nat → Stmt) (d : Dd) : Bool := match P.defs d.f with
  | some df => okSs df.body ⟨d.N, L2.defScope (top d.k), fun _ => true, B.t P, d.lk⟩ (L2.defBody (top d.k)) && (decide (df.ps = (psA (L2.defArgs (top d.k))).length) && (decide (df.n = d.N.length) && (plainA (L2.defArgs (top d.k)) && (decide ((psA (L2.defArgs (top d.k))).Nodup) && decide (B.fnm d.f = some d.x)))))
  | none => false
def scB (N ps : List Str) (sc : Scope) : Bool := (match sc.kind with
  | .function => true
  | _ => false) && (!sc.isCoroutine && (!sc.isGenerator && (decide N.Nodup && (decide (N.take ps.length = ps) && ((ps.all fun x => match sc.names.lookup x with
    | some .local => true
    | some .cell => true
    | _ => false) && sc.names.all fun y => match y.2 with
    | .free => false
    | _ => true)))))
theorem scB_ok {N ps : List Str} {sc : Scope} (h : scB N ps sc = true) : FnScope N ps sc := by
  unfold scB at h
  obtain ⟨h1, h⟩ := ba h
  obtain ⟨h2, h⟩ := ba h
  obtain ⟨h3, h⟩ := ba h
  obtain ⟨h4, h⟩ := ba h
  obtain ⟨h5, h⟩ := ba h
  obtain ⟨h6, h7⟩ := ba h
  refine ⟨?_, by simpa using h2, by simpa using h3, of_decide_eq_true h4, of_decide_eq_true h5, fun x hx => ?_, fun y hy e => ?_⟩
  · split at h1
    · assumption
    · cases h1
  · have := List.all_eq_true.mp h6 x hx
    split at this
    · left; assumption
    · right; assumption
    · cases this
  · have := List.all_eq_true.mp h7 y hy
    rw [e] at this
    cases this
/-! ### from the head's facts -/
def ddef (top : Nat → Stmt) (d : Dd) : He.DefD := ⟨(d.x, none), d.x, d.x, L2.defArgs (top d.k), L2.defBody (top d.k), L2.defScope (top d.k), [], []⟩
def initDef (initS : Stmt) : He.DefD := ⟨initAt, "__init__", "Refused.__init__", L2.defArgs initS, L2.defBody initS, L2.defScope initS, [], []⟩
def fnH (B : Tb) (top : Nat → Stmt) (initS : Stmt) : List He.DefD := initDef initS :: B.ds.map (ddef top)
def faH (B : Tb) : List He.Fa := B.ds.map (fun d => .glo d.x) ++ B.cs.map (fun x => .glo x.2) ++ bltL.map .free
abbrev hookH (B : Tb) (P : Prog) (top : Nat → Stmt) (initS : Stmt) : PySem.W.Hook := He.hookX 6 (faH B) (fnH B top initS) [] B.tf (exB B P)
/-- what a law's tables keep, by the kernel -/
structure TbOk (B : Tb) (P : Prog) (top : Nat → Stmt) : Prop where
  dd : B.ds.all (fun d => ddB B P top d && scB d.N (psA (L2.defArgs (top d.k))) (L2.defScope (top d.k))) = true
  lk : B.ds.all (fun d => d.lk.all fun k => decide (B.q k = Tb.lq d)) = true
  cs : ∀ c, P.sub c c = true → ∃ x, (c, x) ∈ B.cs ∧ B.cnm c = some x
  nc : ∀ k x, B.cnm k = some x → P.sub k k = true
  kw : ∀ e ∈ B.kws, ∀ d ∈ B.ds, B.fnm e.1 = some d.x → ∀ (x qual : Str) (body : List Stmt) (scope : Scope) (kV doc pm cdv ct : Value) (an : Option Addr) (ws as : List Value), mapO (fun i => ws[i]?) e.2.2 = some as → as.length = (psA (L2.defArgs (top d.k))).length →
    bindArgs (PySem.W.fnOf x qual (L2.defArgs (top d.k)) body scope .none kV doc pm an cdv ct) ⟨[], e.2.1.zip ws⟩ = pure ((psA (L2.defArgs (top d.k))).zip as)
theorem nodup_inj {α β : Type} {f : α → β} : ∀ {l : List α}, (l.map f).Nodup → ∀ {a b : α}, a ∈ l → b ∈ l → f a = f b → a = b
  | [], _, a, b, h, _, _ => by cases h
  | x :: l, hn, a, b, ha, hb, e => by
    rw [List.map_cons, List.nodup_cons] at hn
    rcases List.mem_cons.mp ha with ha1 | ha1
    · rcases List.mem_cons.mp hb with hb1 | hb1
      · rw [ha1, hb1]
      · refine absurd (List.mem_map.mpr ⟨b, hb1, ?_⟩) hn.1
        rw [← e, ha1]
    · rcases List.mem_cons.mp hb with hb1 | hb1
      · refine absurd (List.mem_map.mpr ⟨a, ha1, ?_⟩) hn.1
        rw [e, hb1]
      · exact nodup_inj hn.2 ha1 hb1 e
theorem find_fnm {B : Tb} {i : Nat} {x : Str} (h : B.fnm i = some x) : ∃ d ∈ B.ds, d.f = i ∧ d.x = x := by
  unfold Tb.fnm at h
  cases e : B.ds.find? (·.f == i) with
  | none =>
    rw [e] at h
    cases h
  | some d =>
    rw [e] at h
    refine ⟨d, List.mem_of_find?_eq_some e, ?_, Option.some.inj h⟩
    have := List.find?_some e
    simpa using this
theorem find_gnm {B : Tb} {i : Nat} {x : Str} (h : B.gnm i = some x) : (i, x) ∈ B.gs := by
  unfold Tb.gnm at h
  cases e : B.gs.find? (·.1 == i) with
  | none =>
    rw [e] at h
    cases h
  | some d =>
    rw [e] at h
    have h1 := List.mem_of_find?_eq_some e
    have h2 := List.find?_some e
    obtain ⟨a, b⟩ := d
    simp only [beq_iff_eq] at h2
    cases h
    rw [← h2]
    exact h1
theorem find_cnm {B : Tb} {i : Nat} {x : Str} (h : B.cnm i = some x) : (i, x) ∈ B.cs := by
  unfold Tb.cnm at h
  cases e : B.cs.find? (·.1 == i) with
  | none =>
    rw [e] at h
    cases h
  | some d =>
    rw [e] at h
    have h1 := List.mem_of_find?_eq_some e
    have h2 := List.find?_some e
    obtain ⟨a, b⟩ := d
    simp only [beq_iff_eq] at h2
    cases h
    rw [← h2]
    exact h1
theorem plainA_eq {a : Arguments} (h : plainA a = true) : a = ⟨[], a.args, none, [], [], none, []⟩ := by
  obtain ⟨a1, a2, a3, a4, a5, a6, a7⟩ := a
  simp only [plainA, Bool.and_eq_true, List.isEmpty_iff, Option.isNone_iff_eq_none] at h
  obtain ⟨⟨⟨⟨⟨h1, h2⟩, h3⟩, h4⟩, h5⟩, h6⟩ := h
  subst h1 h2 h3 h4 h5 h6
  rfl
section
variable {B : Tb} {P : Prog} {top : Nat → Stmt} {initS : Stmt} {M : Program} {w : World} {K : PySem.W.Frag} {mg : Str → Option Value} {h : Heap}
/-- the function object of a def -/
theorem fun_at (c : He.SaysX (faH B) (fnH B top initS) [] B.tf (exB B P) w h K) {d : Dd} (hd : d ∈ B.ds) : ∃ fd, L2.FunD K d.x d.x (L2.defArgs (top d.k)) (L2.defBody (top d.k)) (L2.defScope (top d.k)) [] [] (He.ga K d.x) fd := He.SaysD.defs c.t.d (d := ddef top d) (List.mem_cons_of_mem _ (List.mem_map.mpr ⟨d, hd, rfl⟩))
theorem def_at (T : TbOk B P top) (c : He.SaysX (faH B) (fnH B top initS) [] B.tf (exB B P) w h K) {d : Dd} (hd : d ∈ B.ds) : DefAt (stt B P M w K mg) (He.ga K d.x) d.N (psA (L2.defArgs (top d.k))) (L2.defScope (top d.k)) (L2.defBody (top d.k)) d.lk := by
  obtain ⟨fd, F⟩ := fun_at c hd
  obtain ⟨oc, od, dV, kV, doc, pm, an, cdv, ct, osl, rfl, lk, hcd, hD, hK⟩ := F.ex
  have hD2 : dV = .none := by
    rcases hD with ⟨_, e⟩ | ⟨e, _⟩
    · exact e
    · exact absurd rfl e
  subst hD2
  have h1 := ba (List.all_eq_true.mp T.dd d hd)
  have h2 := h1.1
  unfold ddB at h2
  split at h2
  · rename_i df hdf
    obtain ⟨_, h2⟩ := ba h2
    obtain ⟨_, h2⟩ := ba h2
    obtain ⟨_, h2⟩ := ba h2
    obtain ⟨hpl, h2⟩ := ba h2
    obtain ⟨hnd, hfn⟩ := ba h2
    have hnd := of_decide_eq_true hnd
    have hfn := of_decide_eq_true hfn
    have hpl := plainA_eq hpl
    refine ⟨⟨d.x, d.x, L2.defArgs (top d.k), .none, kV, doc, pm, cdv, ct, oc, an, od, osl, lk, hcd, ?_, ?_, ?_⟩, scB_ok h1.2, ?_⟩
    · refine L2.Binds.all fun us hl => ?_
      generalize L2.defArgs (top d.k) = a at *
      rw [hpl]
      exact bind_plain hnd hl
    · rintro ks perm ⟨f, x, hf, hx, he⟩
      intro s ws as hin hm hlen
      refine .of_eq ?_
      obtain ⟨d2, hd2, e1, e2⟩ := find_fnm hf
      have hxx : d.x = x := by
        rw [← hx]
        unfold nmOf
        rw [lk]
      exact T.kw (f, ks, perm) he d hd (by rw [hf, hxx]) d.x d.x _ _ kV doc pm cdv ct an ws as hm hlen
    · intro k hk
      obtain ⟨c0, rfl⟩ := He.codeIn_ref hcd
      have hq := of_decide_eq_true (List.all_eq_true.mp (List.all_eq_true.mp T.lk d hd) k hk)
      have hc0 : He.codeOf K (d.x, none) = c0 := He.codeOf_eq (p := (d.x, none)) lk rfl
      have hld : d ∈ B.ld := List.mem_filter.mpr ⟨hd, by
        cases e : d.lk with
        | nil =>
          rw [e] at hk
          cases hk
        | cons _ _ => rfl⟩
      have hcT : He.cT K (d.x, none) = (c0, He.tabOf K c0) := by
        unfold He.cT
        rw [hc0]
      refine ⟨c0, He.tabOf K c0, ?_, rfl, hq, ?_, ?_⟩
      · rw [← hcT]
        exact List.mem_map.mpr ⟨_, List.mem_map.mpr ⟨d, hld, rfl⟩, rfl⟩
      · refine List.mem_map.mpr ⟨d, hld, ?_⟩
        rw [hcT]
        show (_, _) = (_, B.q k)
        rw [hq]
      · intro p hp e
        obtain ⟨d', hd', rfl⟩ := List.mem_map.mp hp
        have e2 : (He.cT K (d'.x, none)).2 = (He.cT K (d.x, none)).2 := by
          rw [hcT]
          exact e
        have nd : (B.tf.map fun p => (He.cT K p).2).Nodup := by
          have := c.more
          unfold exB at this
          obtain ⟨_, this⟩ := ba this
          obtain ⟨_, this⟩ := ba this
          exact of_decide_eq_true (ba this).2
        have e3 := nodup_inj nd (List.mem_map.mpr ⟨d', hd', rfl⟩) (List.mem_map.mpr ⟨d, hld, rfl⟩) e2
        have e4 : d'.x = d.x := congrArg (fun z : He.Defn => z.1) e3
        show Tb.lq d' = B.q k
        rw [hq]
        unfold Tb.lq
        rw [e4]
    · show _ = psOf K _
      unfold psOf
      rw [lk]
  · cases h2
structure IniOk (initS : Stmt) : Prop where
  body : ∃ p1 p2 p3 p4 : Pos, L2.defBody initS = [.Assign [.Attribute (.Name "self" p1) "what" p2] (.Name "what" p3) p4]
  sc : scB ["self", "what"] ["self", "what"] (L2.defScope initS) = true
  pl : plainA (L2.defArgs initS) = true
  ps : psA (L2.defArgs initS) = (["self", "what"] : List Str)
theorem err_at (I : IniOk initS) (T : TbOk B P top) (c : He.SaysX (faH B) (fnH B top initS) [] B.tf (exB B P) w h K) : ∃ (fI : Addr) (fd : FuncData), ErrC K (stt B P M w K mg).cl P.sub fI ∧ L2.Binds K fd ["self", "what"] [] ∧ ∀ base, FnOk M w K mg base (CX M w) 1 fI fd ["self", "what"] (spInit K) := by
  obtain ⟨fd, F⟩ := He.SaysD.defs c.t.d (d := initDef initS) List.mem_cons_self
  obtain ⟨oc, od, dV, kV, doc, pm, an, cdv, ct, osl, rfl, lk, hcd, hD, hK⟩ := F.ex
  have hD2 : dV = .none := by
    rcases hD with ⟨_, e⟩ | ⟨e, _⟩
    · exact e
    · exact absurd rfl e
  subst hD2
  have hm := c.more
  unfold exB at hm
  obtain ⟨m1, m2⟩ := ba hm
  obtain ⟨m3, _⟩ := ba m2
  have key : ∀ k, P.sub k k = true → ∃ x, (k, x) ∈ B.cs ∧ (stt B P M w K mg).cl k = He.ga K x := fun k hk => by
    obtain ⟨x, h1, h2⟩ := T.cs k hk
    refine ⟨x, h1, ?_⟩
    show He.ga K ((B.cnm k).getD "") = _
    rw [h2]
    rfl
  refine ⟨He.fAd K initAt, PySem.W.fnOf "__init__" "Refused.__init__" (L2.defArgs initS) (L2.defBody initS) (L2.defScope initS) .none kV doc pm an cdv ct, ⟨fun k hk => ?_, fun k hk => ?_, fun k j hk hj => ?_, fun k hk => ?_, fun k hk => ?_, of_decide_eq_true m3⟩, ?_, fun base => ?_⟩
  · obtain ⟨x, h1, h2⟩ := key k hk
    rw [h2]
    exact xfB_ok (ba (ba (List.all_eq_true.mp m1 _ h1)).2).1
  · obtain ⟨x, h1, h2⟩ := key k hk
    rw [h2]
    exact He.eqO_ok (ba (ba (ba (List.all_eq_true.mp m1 _ h1)).2).2).1
  · obtain ⟨x, h1, h2⟩ := key k hk
    obtain ⟨y, h3, h4⟩ := key j hj
    rw [h2, h4]
    exact of_decide_eq_true (List.all_eq_true.mp (ba (ba (ba (ba (List.all_eq_true.mp m1 _ h1)).2).2).2).2 _ h3)
  · obtain ⟨x, h1, h2⟩ := key k hk
    rw [h2]
    exact oexB_ok (ba (List.all_eq_true.mp m1 _ h1)).1
  · obtain ⟨x, h1, h2⟩ := key k hk
    rw [h2]
    exact He.eqO_ok (ba (ba (ba (ba (List.all_eq_true.mp m1 _ h1)).2).2).2).1
  · refine L2.Binds.all fun us hl => ?_
    have hpl := plainA_eq I.pl
    have hps := I.ps
    show bindArgs (PySem.W.fnOf _ _ (L2.defArgs initS) _ _ _ _ _ _ _ _ _) _ = _
    generalize L2.defArgs initS = a at *
    rw [hpl]
    rw [← hps] at hl ⊢
    exact bind_plain (by
      rw [show List.map (fun x => x.arg) a.args = (["self", "what"] : List Str) from hps]
      decide +kernel) hl
  · obtain ⟨p1, p2, p3, p4, hb⟩ := I.body
    have lk' : K.lookup (He.fAd K initAt) = some ⟨oc, od, .func (PySem.W.fnOf "__init__" "Refused.__init__" (L2.defArgs initS) [.Assign [.Attribute (.Name "self" p1) "what" p2] (.Name "what" p3) p4] (L2.defScope initS) .none kV doc pm an cdv ct), osl⟩ := by
      rw [← hb]
      exact lk
    have := init_ok (CX := CX M w) (P := M) (w := w) (mg := mg) (base := base) (k := 0) lk' hcd (scB_ok I.sc)
    rw [← hb] at this
    exact this
/-- the static facts -/
theorem fx_of (hn : h.Ns mainGlobals mg) (X : K.In h) (I : IniOk initS) (T : TbOk B P top) (c : He.SaysX (faH B) (fnH B top initS) [] B.tf (exB B P) w h K) : Fx (stt B P M w K mg) P (B.t P) where
  blt := fun x hx => He.free_ok X hn (He.SaysD.facts c.t.d (f := .free x) (List.mem_append_right _ (List.mem_map.mpr ⟨x, hx, rfl⟩)))
  glo := fun k x d hx hd => by
    have hg : (k, x) ∈ B.gs := find_gnm hx
    have hm := c.more
    unfold exB at hm
    obtain ⟨_, m2⟩ := ba hm
    obtain ⟨_, m3⟩ := ba m2
    have m4 := List.all_eq_true.mp (ba m3).1 _ hg
    dsimp only at m4
    rw [hd] at m4
    split at m4
    · rename_i d' u e1 e2
      cases e1
      obtain ⟨v, r, s⟩ := conB_ok (F := (stt B P M w K mg).fw) d u m4
      exact ⟨v, u, PySem.W.mg_of X hn e2, r, s⟩
    · cases m4
  err := err_at I T c
  cnm := fun k x hx => by
    have hc : (k, x) ∈ B.cs := find_cnm hx
    refine ⟨T.nc k x hx, ?_⟩
    have := He.glo_ok X hn (He.SaysD.facts c.t.d (f := .glo x) (List.mem_append_left _ (List.mem_append_right _ (List.mem_map.mpr ⟨(k, x), hc, rfl⟩))))
    show mg x = some (.ref (He.ga K ((B.cnm k).getD "")))
    rw [show B.cnm k = some x from hx]
    exact this
  defs := fun f x hx => by
    obtain ⟨d, hd, rfl, rfl⟩ := find_fnm hx
    have h1 := ba (List.all_eq_true.mp T.dd d hd)
    have h2 := h1.1
    unfold ddB at h2
    split at h2
    · rename_i df hdf
      obtain ⟨k1, h2⟩ := ba h2
      obtain ⟨k2, h2⟩ := ba h2
      obtain ⟨k3, h2⟩ := ba h2
      obtain ⟨fd, F⟩ := fun_at c hd
      exact ⟨He.ga K d.x, df, d.N, psA (L2.defArgs (top d.k)), L2.defScope (top d.k), L2.defBody (top d.k), d.lk, He.glo_ok X hn (He.SaysD.facts c.t.d (f := .glo d.x) (List.mem_append_left _ (List.mem_append_left _ (List.mem_map.mpr ⟨d, hd, rfl⟩)))), F.kp, hdf, def_at T c hd, of_decide_eq_true k2, of_decide_eq_true k3, k1⟩
    · cases h2
  okl := fun _ _ _ _ h => h
  kw := fun f x fa ks perm hx hfa hk => by
    obtain ⟨d, hd, rfl, rfl⟩ := find_fnm hx
    have hg := He.glo_ok X hn (He.SaysD.facts c.t.d (f := .glo d.x) (List.mem_append_left _ (List.mem_append_left _ (List.mem_map.mpr ⟨d, hd, rfl⟩))))
    have e : He.ga K d.x = fa := by
      have := hg.symm.trans hfa
      injection this with this
      injection this
    subst e
    obtain ⟨fd, F⟩ := fun_at c hd
    obtain ⟨oc, od, dV, kV, doc, pm, an, cdv, ct, osl, rfl, lk, _⟩ := F.ex
    refine ⟨d.f, d.x, hx, ?_, List.contains_iff_mem.mp (show B.kws.contains (d.f, ks, perm) = true from hk)⟩
    unfold nmOf
    rw [lk]
  lams := fun k N sc b hk => by
    unfold stt Tb.lmB at hk
    dsimp only at hk
    split at hk
    · rename_i e he
      exact ⟨e, he, hk⟩
    · cases hk
/-- the law -/
theorem law_F {l : PySem.W.OpenLaw} {N : Nat} {d : Dd} {fa : Addr} (hn : h.Ns mainGlobals mg) (X : K.In h) (I : IniOk initS) (T : TbOk B P top) (c : He.SaysX (faH B) (fnH B top initS) [] B.tf (exB B P) w h K) (hd : d ∈ B.ds) (hmg : mg d.x = some (.ref fa)) (hps : psA (L2.defArgs (top d.k)) = (["script"] : List Str)) (hfn : B.fnm d.f = some d.x)
    (hlaw : ∀ ns : List Int, ns.length ≤ 63 → ∃ st, go P N (.fn d.f) [scr ns] [] = .ok (.bl true) st) : LamX.LawAtS l w K (CX l.prog w) (N + 2) 63 "script" mg fa h := by
  have F := fx_of (M := l.prog) hn X I T c
  obtain ⟨fa', e1, e2, FV⟩ := (defs_ok F N).1 d.f d.x hfn
  have e3 : fa' = fa := by
    have := e1.symm.trans hmg
    injection this with this
    injection this
  subst e3
  have hg := He.glo_ok X hn (He.SaysD.facts c.t.d (f := .glo d.x) (List.mem_append_left _ (List.mem_append_left _ (List.mem_map.mpr ⟨d, hd, rfl⟩))))
  have e4 : He.ga K d.x = fa' := by
    have := hg.symm.trans hmg
    injection this with this
    injection this
  obtain ⟨fd, FD⟩ := fun_at c hd
  rw [e4] at FD
  obtain ⟨oc, od, dV, kV, doc, pm, an, cdv, ct, osl, rfl, lk, hcd, hD, hK⟩ := FD.ex
  have hD2 : dV = .none := by
    rcases hD with ⟨_, e⟩ | ⟨e, _⟩
    · exact e
    · exact absurd rfl e
  subst hD2
  have h2 := (ba (List.all_eq_true.mp T.dd d hd)).1
  have hpl : plainA (L2.defArgs (top d.k)) = true := by
    unfold ddB at h2
    split at h2
    · obtain ⟨_, h2⟩ := ba h2
      obtain ⟨_, h2⟩ := ba h2
      obtain ⟨_, h2⟩ := ba h2
      exact (ba h2).1
    · cases h2
  have hpl := plainA_eq hpl
  refine law_at (S := stt B P l.prog w K mg) (l := l) (k := N + 2) (n := 63) (x := "script") (run := fun ds st => go P N (.fn d.f) ds st) rfl (by decide) FV (fun p hp => ?_) (fun p hp => ?_) (fun p hp => ?_) ?_ (fun p hp => ?_) lk (fun s u => .of_eq ?_) hlaw
  · obtain ⟨q, hq, rfl⟩ := List.mem_map.mp hp
    exact c.empty q hq
  · obtain ⟨q, hq, rfl⟩ := List.mem_map.mp hp
    exact c.out q hq
  · obtain ⟨q, hq, rfl⟩ := List.mem_map.mp hp
    exact PySem.W.codeHd_of_K X (c.hd q hq)
  · show psOf K _ = _
    unfold psOf
    rw [lk]
    exact hps
  · obtain ⟨d', hd', rfl⟩ := List.mem_map.mp hp
    exact ⟨(He.cT K (d'.x, none)).1, List.mem_map.mpr ⟨(d'.x, none), List.mem_map.mpr ⟨d', hd', rfl⟩, rfl⟩⟩
  · have := @bind_plain d.x d.x (L2.defArgs (top d.k)).args (L2.defBody (top d.k)) (L2.defScope (top d.k)) kV doc pm cdv ct an [u] (by
      rw [show List.map (fun x => x.arg) (L2.defArgs (top d.k)).args = (["script"] : List Str) from hps]
      decide +kernel) (by
      rw [show List.map (fun x => x.arg) (L2.defArgs (top d.k)).args = (["script"] : List Str) from hps]
      rfl)
    rw [← hpl] at this
    rw [this]
    rw [show List.map (fun x => x.arg) (L2.defArgs (top d.k)).args = (["script"] : List Str) from hps]
    rfl
end
end Ev

end
section
set_option maxRecDepth 100000
namespace Ev
open PySem
/-- is_number: 0 thing -/
def F0 : Def := { ps := 1, n := 1, own := false, body :=
  (.cons (.ret (.and (.bi .isinstance (.cons (.var 0) (.cons (.con (.ty "int")) .nil))) (.not (.bi .isinstance (.cons (.var 0) (.cons (.con (.ty "bool")) .nil))))))
  .nil) }
/-- is_between: 0 thing, 1 low, 2 high -/
def F1 : Def := { ps := 3, n := 3, own := false, body :=
  (.cons (.ret (.and (.call 0 (.cons (.var 0) .nil)) (.chn .le .le (.var 1) (.var 0) (.var 2))))
  .nil) }
/-- check_many: 0 many, 1 low, 2 high -/
def F2 : Def := { ps := 3, n := 3, own := false, body :=
  (.cons (.ite (.not (.of (.call 1 (.cons (.var 0) (.cons (.var 1) (.cons (.var 2) .nil)))))) (.cons (.rai 2 (.con (.int 0)))
  .nil) .nil)
  .nil) }
/-- loud_digits: 0 many -/
def F3 : Def := { ps := 1, n := 1, own := false, body :=
  (.cons (.ret (.me .bit_length (.bin .sub (.var 0) (.con (.int 1))) .nil))
  .nil) }
/-- size_of_unit: 0 many -/
def F4 : Def := { ps := 1, n := 1, own := false, body :=
  (.cons (.ret (.bin .add (.bi .len (.cons (.glo 2) .nil)) (.bin .mul (.con (.int 2)) (.call 3 (.cons (.var 0) .nil)))))
  .nil) }
/-- least_loud: 0 many -/
def F5 : Def := { ps := 1, n := 1, own := false, body :=
  (.cons (.ret (.bin .mul (.call 4 (.cons (.var 0) .nil)) (.bin .add (.call 4 (.cons (.var 0) .nil)) (.con (.int 1)))))
  .nil) }
/-- loud_unit_of: 0 many, 1 room, 2 turn, 3 found, 4 left -/
def F6 : Def := { ps := 2, n := 5, own := false, body :=
  (.cons (.par [3, 4] (.cons (.new (.of (.glo 2))) (.cons (.var 1) .nil)))
  (.cons (.for (.name 2) (.rng (.cons (.call 3 (.cons (.var 0) .nil)) .nil)) (.cons (.ex (.me .extend (.var 3) (.cons (.lis (.dis (.cons (.bin .mod (.var 4) (.con (.int 2))) (.cons (.con (.int 0)) .nil)))) .nil)))
  (.cons (.set (.name 4) (.bin .fdiv (.var 4) (.con (.int 2))))
  .nil)))
  (.cons (.ret (.bi .tuple (.cons (.var 3) .nil)))
  .nil))) }
/-- loud_stretch_of: 0 many, 1 room, 2 size, 3 unit, 4 units, 5 longer -/
def F7 : Def := { ps := 3, n := 6, own := false, body :=
  (.cons (.set (.name 3) (.call 6 (.cons (.var 0) (.cons (.var 1) .nil))))
  (.cons (.par [4, 5] (.cons (.bin .fdiv (.var 2) (.bi .len (.cons (.var 3) .nil))) (.cons (.bin .mod (.var 2) (.bi .len (.cons (.var 3) .nil))) .nil)))
  (.cons (.ret (.bin .add (.bin .add (.var 3) (.bin .mul (.bin .add (.var 3) (.tup (.cons (.con (.int 0)) .nil))) (.var 5))) (.bin .mul (.var 3) (.bin .sub (.bin .sub (.var 4) (.con (.int 1))) (.var 5)))))
  .nil))) }
/-- loud_size: 0 many -/
def F8 : Def := { ps := 1, n := 1, own := false, body :=
  (.cons (.ex (.call 2 (.cons (.var 0) (.cons (.con (.int 1)) (.cons (.glo 1) .nil)))))
  (.cons (.ret (.call 4 (.cons (.var 0) .nil)))
  .nil)) }
/-- check_loud: 0 many, 1 room -/
def F9 : Def := { ps := 2, n := 2, own := false, body :=
  (.cons (.ex (.call 2 (.cons (.var 0) (.cons (.con (.int 1)) (.cons (.glo 1) .nil)))))
  (.cons (.ite (.not (.of (.call 1 (.cons (.var 1) (.cons (.con (.int 0)) (.cons (.bin .sub (.var 0) (.con (.int 1))) .nil)))))) (.cons (.rai 7 (.var 1))
  .nil) .nil)
  .nil)) }
/-- loud_unit: 0 many, 1 room -/
def F10 : Def := { ps := 2, n := 2, own := false, body :=
  (.cons (.ex (.call 9 (.cons (.var 0) (.cons (.var 1) .nil))))
  (.cons (.ret (.call 6 (.cons (.var 0) (.cons (.var 1) .nil))))
  .nil)) }
/-- loud_stretch: 0 many, 1 room, 2 size -/
def F11 : Def := { ps := 3, n := 3, own := false, body :=
  (.cons (.ex (.call 9 (.cons (.var 0) (.cons (.var 1) .nil))))
  (.cons (.ite (.not (.of (.call 1 (.cons (.var 2) (.cons (.call 5 (.cons (.var 0) .nil)) (.cons (.glo 0) .nil)))))) (.cons (.rai 10 (.call 5 (.cons (.var 0) .nil)))
  .nil) .nil)
  (.cons (.ret (.call 7 (.cons (.var 0) (.cons (.var 1) (.cons (.var 2) .nil)))))
  .nil))) }
/-- _law_pool: 0 script, 1 k, 2 cell, 3 big, 4 mixed -/
def F12 : Def := { ps := 2, n := 5, own := true, body :=
  (.cons (.set (.name 2) (.con (.int 0)))
  (.cons (.ite (.of (.cmp .lt (.var 1) (.bi .len (.cons (.var 0) .nil)))) (.cons (.set (.name 2) (.ix (.var 0) (.var 1)))
  .nil) (.cons (.ite (.of (.cmp .ne (.var 0) (.lis (.dis .nil)))) (.cons (.set (.name 2) (.ix (.var 0) (.con (.int 0))))
  .nil) .nil)
  .nil))
  (.cons (.set (.name 3) (.bi .max (.cons (.bi .int (.cons (.var 2) .nil)) (.cons (.bi .int (.cons (.bin .sub (.neg (.con (.int 1))) (.var 2)) .nil)) .nil))))
  (.cons (.set (.name 4) (.bin .mod (.bi .int (.cons (.bin .mul (.bin .add (.bin .add (.bin .add (.bin .mod (.bi .int (.cons (.var 3) .nil)) (.con (.int 2147483629))) (.bin .mul (.bin .mul (.con (.int 7919)) (.var 1)) (.var 1))) (.bin .mul (.con (.int 31)) (.var 1))) (.con (.int 17))) (.con (.int 48271))) .nil)) (.con (.int 2147483647))))
  (.cons (.ret (.new (.dis (.cons (.bin .mul (.var 3) (.bi .int (.cons (.and (.cmp .ge (.var 3) (.bin .pow (.con (.int 10)) (.con (.int 18)))) (.cmp .lt (.var 1) (.bi .len (.cons (.var 0) .nil)))) .nil))) (.cons (.var 4) .nil)))))
  .nil))))) }
/-- _law_take: 0 jar, 1 top, 2 drawn -/
def F13 : Def := { ps := 2, n := 3, own := false, body :=
  (.cons (.ite (.of (.cmp .gt (.ix (.var 0) (.con (.int 0))) (.con (.int 0)))) (.cons (.set (.name 2) (.bin .mod (.bi .int (.cons (.ix (.var 0) (.con (.int 0))) .nil)) (.var 1)))
  (.cons (.sts (.var 0) (.con (.int 0)) (.bin .fdiv (.ix (.var 0) (.con (.int 0))) (.var 1)))
  (.cons (.ret (.var 2))
  .nil))) .nil)
  (.cons (.sts (.var 0) (.con (.int 1)) (.bin .mod (.bi .int (.cons (.bin .add (.bin .mul (.ix (.var 0) (.con (.int 1))) (.con (.int 39373))) (.con (.int 7))) .nil)) (.con (.int 2147483647))))
  (.cons (.ret (.bin .mod (.bi .int (.cons (.bin .fdiv (.bin .mod (.bi .int (.cons (.bin .mul (.ix (.var 0) (.con (.int 1))) (.ix (.var 0) (.con (.int 1)))) .nil)) (.con (.int 2147483629))) (.con (.int 32))) .nil)) (.var 1)))
  .nil))) }
/-- _law_one: 0 jar, 1 some -/
def F14 : Def := { ps := 2, n := 2, own := false, body :=
  (.cons (.ret (.ix (.var 1) (.call 13 (.cons (.var 0) (.cons (.bi .len (.cons (.var 1) .nil)) .nil)))))
  .nil) }
/-- _law_is_whole: 0 thing -/
def F15 : Def := { ps := 1, n := 1, own := false, body :=
  (.cons (.ret (.and (.bi .isinstance (.cons (.var 0) (.cons (.con (.ty "int")) .nil))) (.not (.bi .isinstance (.cons (.var 0) (.cons (.con (.ty "bool")) .nil))))))
  .nil) }
/-- _law_same: 0 heard, 1 owed, 2 todo, 3 one, 4 due, 5 is_so, 6 i -/
def F16 : Def := { ps := 2, n := 7, own := false, body :=
  (.cons (.set (.name 2) (.new (.dis (.cons (.tup (.cons (.var 0) (.cons (.var 1) .nil))) .nil))))
  (.cons (.whl (.of (.cmp .ne (.var 2) (.lis (.dis .nil)))) (.cons (.set (.tup [(.name 3), (.name 4)]) (.me .pop (.var 2) .nil))
  (.cons (.ite (.of (.isN (.var 4))) (.cons (.set (.name 5) (.isN (.var 3)))
  .nil) (.cons (.ite (.of (.bi .isinstance (.cons (.var 4) (.cons (.con (.ty "bool")) .nil)))) (.cons (.set (.name 5) (.and (.bi .isinstance (.cons (.var 3) (.cons (.con (.ty "bool")) .nil))) (.cmp .eq (.var 3) (.var 4))))
  .nil) (.cons (.ite (.of (.bi .isinstance (.cons (.var 4) (.cons (.con (.ty "int")) .nil)))) (.cons (.set (.name 5) (.and (.call 15 (.cons (.var 3) .nil)) (.cmp .eq (.var 3) (.var 4))))
  .nil) (.cons (.ite (.of (.bi .isinstance (.cons (.var 4) (.cons (.con (.ty "str")) .nil)))) (.cons (.set (.name 5) (.and (.bi .isinstance (.cons (.var 3) (.cons (.con (.ty "str")) .nil))) (.cmp .eq (.var 3) (.var 4))))
  .nil) (.cons (.ite (.of (.bi .isinstance (.cons (.var 4) (.cons (.con (.ty "dict")) .nil)))) (.cons (.set (.name 5) (.and (.bi .isinstance (.cons (.var 3) (.cons (.con (.ty "dict")) .nil))) (.cmp .eq (.var 3) (.var 4))))
  .nil) (.cons (.set (.name 5) (.ite (.of (.bi .isinstance (.cons (.var 4) (.cons (.con (.ty "tuple")) .nil)))) (.bi .isinstance (.cons (.var 3) (.cons (.con (.ty "tuple")) .nil))) (.bi .isinstance (.cons (.var 3) (.cons (.con (.ty "list")) .nil)))))
  (.cons (.set (.name 5) (.and (.var 5) (.cmp .eq (.bi .len (.cons (.var 3) .nil)) (.bi .len (.cons (.var 4) .nil)))))
  (.cons (.ex (.me .extend (.var 2) (.cons (.ite (.of (.var 5)) (.lis (.cmp [6] (.name 6) (.rng (.cons (.bi .len (.cons (.var 4) .nil)) .nil)) (.tup (.cons (.ix (.var 3) (.var 6)) (.cons (.ix (.var 4) (.var 6)) .nil))))) (.lis (.dis .nil))) .nil)))
  .nil))))
  .nil))
  .nil))
  .nil))
  .nil))
  (.cons (.ite (.not (.of (.var 5))) (.cons (.ret (.con (.bl false)))
  .nil) .nil)
  .nil))))
  (.cons (.ret (.con (.bl true)))
  .nil))) }
/-- _law_no_number: 0 jar, 1 low, 2 high -/
def F17 : Def := { ps := 3, n := 3, own := false, body :=
  (.cons (.ret (.call 14 (.cons (.var 0) (.cons (.lis (.dis (.cons (.bin .sub (.var 1) (.con (.int 1))) (.cons (.bin .add (.var 2) (.con (.int 1))) (.cons (.con .non) (.cons (.con (.bl true)) (.cons (.con (.str "1")) (.cons (.tup (.cons (.con (.int 1)) .nil)) (.cons (.lis (.dis .nil)) (.cons (.bin .pow (.con (.int 10)) (.con (.int 30))) (.cons (.neg (.bin .pow (.con (.int 10)) (.con (.int 30)))) (.cons (.con (.str "")) (.cons (.con (.bl false)) .nil))))))))))))) .nil))))
  .nil) }
/-- _law_pt_bits: 0 number, 1 found -/
def F18 : Def := { ps := 1, n := 2, own := false, body :=
  (.cons (.set (.name 1) (.new (.dis .nil)))
  (.cons (.whl (.of (.cmp .gt (.var 0) (.con (.int 0)))) (.cons (.ex (.me .append (.var 1) (.cons (.bin .mod (.bi .int (.cons (.var 0) .nil)) (.con (.int 2))) .nil)))
  (.cons (.set (.name 0) (.bin .fdiv (.var 0) (.con (.int 2))))
  .nil)))
  (.cons (.ret (.var 1))
  .nil))) }
/-- _law_pt_loud_size: 0 l -/
def F19 : Def := { ps := 1, n := 1, own := false, body :=
  (.cons (.ret (.bin .add (.con (.int 5)) (.bin .mul (.con (.int 2)) (.bi .len (.cons (.call 18 (.cons (.bin .sub (.var 0) (.con (.int 1))) .nil)) .nil)))))
  .nil) }
/-- _law_pt_loud_unit: 0 l, 1 room, 2 digit, 3 many, 4 found -/
def F20 : Def := { ps := 2, n := 5, own := false, body :=
  (.cons (.par [3, 4] (.cons (.bi .len (.cons (.call 18 (.cons (.bin .sub (.var 0) (.con (.int 1))) .nil)) .nil)) (.cons (.new (.dis (.cons (.con (.int 1)) (.cons (.con (.int 1)) (.cons (.con (.int 1)) (.cons (.con (.int 1)) (.cons (.con (.int 0)) .nil))))))) .nil)))
  (.cons (.for (.name 2) (.of (.sl (.bin .add (.call 18 (.cons (.var 1) .nil)) (.bin .mul (.lis (.dis (.cons (.con (.int 0)) .nil))) (.var 3))) (.con .no) (.var 3))) (.cons (.ex (.me .extend (.var 4) (.cons (.lis (.dis (.cons (.var 2) (.cons (.con (.int 0)) .nil)))) .nil)))
  .nil))
  (.cons (.ret (.bi .tuple (.cons (.var 4) .nil)))
  .nil))) }
/-- _law_pt_loud_stretch: 0 l, 1 room, 2 size, 3 unit, 4 go, 5 many, 6 more, 7 cells -/
def F21 : Def := { ps := 3, n := 8, own := false, body :=
  (.cons (.set (.name 3) (.call 20 (.cons (.var 0) (.cons (.var 1) .nil))))
  (.cons (.par [5, 6, 7] (.cons (.bin .fdiv (.var 2) (.bi .len (.cons (.var 3) .nil))) (.cons (.bin .mod (.bi .int (.cons (.var 2) .nil)) (.bi .len (.cons (.var 3) .nil))) (.cons (.new (.dis .nil)) .nil))))
  (.cons (.for (.name 4) (.rng (.cons (.var 5) .nil)) (.cons (.ex (.me .extend (.var 7) (.cons (.bin .add (.lis (.of (.var 3))) (.bin .mul (.lis (.dis (.cons (.con (.int 0)) .nil))) (.bi .int (.cons (.chn .le .le (.con (.int 1)) (.var 4) (.var 6)) .nil)))) .nil)))
  .nil))
  (.cons (.ret (.bi .tuple (.cons (.var 7) .nil)))
  .nil)))) }
/-- _law_dr_heard: 0 asked, 1 refused_one -/
def F22 : Def := { ps := 1, n := 2, own := false, body :=
  (.cons (.try (.cons (.ret (.tup (.cons (.con (.str "told")) (.cons (.cal 0 .nil) .nil))))
  .nil) [(4, .tagWhat "BadMachine"), (19, .tagWhat "BadScheme"), (20, .tagWhat "BadQuiet"), (5, .tagWhat "BadWord"), (18, .tagWhat "BadTold"), (2, .tagWhat "BadMany"), (8, .tagWhat "BadLot"), (21, .tagWhat "BadRooms"), (6, .tagWhat "TooMany")])
  .nil) }
/-- _law_dr_line: 0 asked, 1 refused_one -/
def F23 : Def := { ps := 1, n := 2, own := false, body :=
  (.cons (.try (.cons (.ret (.call 22 (.cons (.var 0) .nil)))
  .nil) [(1, .tagWhat "BadK"), (9, .tagWhat "TooThin"), (7, .tagWhat "BadRoom"), (10, .tagWhat "BadSize"), (12, .tagWhat "BadLengths"), (14, .tagWhat "NotLet"), (22, .tagWhat "Missed"), (15, .tagWhat "Short"), (13, .tagWhat "TooLong"), (11, .tagWhat "BadLine"), (3, .tagWhat "BadView"), (16, .tagWhat "BadInspector"), (17, .tagWhat "BadLimit")])
  .nil) }
/-- _law_read_back: 0 many, 1 cells, 2 room_by, 3 width, 4 at, 5 rooms, 6 further, 7 unit, 8 is_more, 9 room -/
def F24 : Def := { ps := 2, n := 10, own := false, body :=
  (.cons (.par [3, 4, 5, 6] (.cons (.call 19 (.cons (.var 0) .nil)) (.cons (.con (.int 0)) (.cons (.new (.dis .nil)) (.cons (.new (.dis .nil)) .nil)))))
  (.cons (.set (.name 2) (.bi .dict (.cons (.lis (.cmp [9] (.name 9) (.rng (.cons (.var 0) .nil)) (.tup (.cons (.call 20 (.cons (.var 0) (.cons (.var 9) .nil))) (.cons (.var 9) .nil))))) .nil)))
  (.cons (.whl (.of (.cmp .lt (.var 4) (.bi .len (.cons (.var 1) .nil)))) (.cons (.set (.name 7) (.sl (.var 1) (.var 4) (.bin .add (.var 4) (.var 3))))
  (.cons (.ite (.of (.cmp .notin (.var 7) (.var 2))) (.cons (.ret (.con .non))
  .nil) .nil)
  (.cons (.ex (.me .append (.var 5) (.cons (.ix (.var 2) (.var 7)) .nil)))
  (.cons (.set (.name 4) (.bin .add (.var 4) (.var 3)))
  (.cons (.set (.name 8) (.and (.cmp .lt (.var 4) (.bi .len (.cons (.var 1) .nil))) (.cmp .eq (.ix (.var 1) (.var 4)) (.con (.int 0)))))
  (.cons (.ex (.me .append (.var 6) (.cons (.var 8) .nil)))
  (.cons (.set (.name 4) (.bin .add (.var 4) (.bi .int (.cons (.var 8) .nil))))
  .nil))))))))
  (.cons (.ret (.ite (.of (.cmp .eq (.lenSet (.var 5)) (.con (.int 1)))) (.tup (.cons (.ix (.var 5) (.con (.int 0))) (.cons (.var 6) .nil))) (.con .non)))
  .nil)))) }
/-- _law_units_right: 0 many, 1 width, 2 told, 3 room, 4 unit -/
def F25 : Def := { ps := 1, n := 5, own := false, body :=
  (.cons (.set (.name 1) (.call 19 (.cons (.var 0) .nil)))
  (.cons (.ite (.not (.of (.call 16 (.cons (.call 8 (.cons (.var 0) .nil)) (.cons (.var 1) .nil))))) (.cons (.ret (.con (.bl false)))
  .nil) .nil)
  (.cons (.set (.name 2) (.lis (.cmp [3] (.name 3) (.rng (.cons (.var 0) .nil)) (.call 10 (.cons (.var 0) (.cons (.var 3) .nil))))))
  (.cons (.ite (.not (.of (.call 16 (.cons (.var 2) (.cons (.lis (.cmp [3] (.name 3) (.rng (.cons (.var 0) .nil)) (.call 20 (.cons (.var 0) (.cons (.var 3) .nil))))) .nil))))) (.cons (.ret (.con (.bl false)))
  .nil) .nil)
  (.cons (.ite (.of (.cmp .ne (.lis (.cmpIf [4] (.name 4) (.of (.var 2)) (.or (.of (.cmp .ne (.bi .len (.cons (.var 4) .nil)) (.var 1))) (.or (.of (.cmp .ne (.sl (.var 4) (.con .no) (.con (.int 5))) (.tup (.cons (.con (.int 1)) (.cons (.con (.int 1)) (.cons (.con (.int 1)) (.cons (.con (.int 1)) (.cons (.con (.int 0)) .nil)))))))) (.of (.cmp .ne (.ix (.var 4) (.neg (.con (.int 1)))) (.con (.int 0)))))) (.var 4))) (.lis (.dis .nil)))) (.cons (.ret (.con (.bl false)))
  .nil) .nil)
  (.cons (.ret (.cmp .eq (.lenSet (.var 2)) (.var 0)))
  .nil)))))) }
/-- _law_stretches_right: 0 jar, 1 many, 2 width, 3 least, 4 size, 5 room, 6 cells, 7 found, 8 one -/
def F26 : Def := { ps := 2, n := 9, own := false, body :=
  (.cons (.set (.name 2) (.call 19 (.cons (.var 1) .nil)))
  (.cons (.set (.name 3) (.bin .mul (.var 2) (.bin .add (.var 2) (.con (.int 1)))))
  (.cons (.for (.name 4) (.of (.lis (.dis (.cons (.var 3) (.cons (.bin .add (.var 3) (.con (.int 1))) (.cons (.bin .add (.var 3) (.call 13 (.cons (.var 0) (.cons (.bin .mul (.con (.int 3)) (.var 2)) .nil)))) (.cons (.bin .add (.var 3) (.call 13 (.cons (.var 0) (.cons (.bin .sub (.con (.int 5001)) (.var 3)) .nil)))) (.cons (.con (.int 5000)) .nil)))))))) (.cons (.set (.name 5) (.call 13 (.cons (.var 0) (.cons (.var 1) .nil))))
  (.cons (.set (.name 6) (.call 11 (.cons (.var 1) (.cons (.var 5) (.cons (.var 4) .nil)))))
  (.cons (.ite (.or (.not (.of (.call 16 (.cons (.var 6) (.cons (.call 21 (.cons (.var 1) (.cons (.var 5) (.cons (.var 4) .nil)))) .nil))))) (.of (.cmp .ne (.bi .len (.cons (.var 6) .nil)) (.var 4)))) (.cons (.ret (.con (.bl false)))
  .nil) .nil)
  (.cons (.set (.name 7) (.call 24 (.cons (.var 1) (.cons (.var 6) .nil))))
  (.cons (.ite (.or (.of (.isN (.var 7))) (.or (.of (.cmp .ne (.ix (.var 7) (.con (.int 0))) (.var 5))) (.or (.of (.ix (.ix (.var 7) (.con (.int 1))) (.con (.int 0)))) (.of (.ix (.ix (.var 7) (.con (.int 1))) (.neg (.con (.int 1)))))))) (.cons (.ret (.con (.bl false)))
  .nil) .nil)
  (.cons (.ite (.or (.of (.cmp .ne (.bi .len (.cons (.ix (.var 7) (.con (.int 1))) .nil)) (.bin .fdiv (.var 4) (.var 2)))) (.of (.cmp .ne (.bi .len (.cons (.lis (.cmpIf [8] (.name 8) (.of (.ix (.var 7) (.con (.int 1)))) (.of (.var 8)) (.var 8))) .nil)) (.bin .mod (.bi .int (.cons (.var 4) .nil)) (.var 2))))) (.cons (.ret (.con (.bl false)))
  .nil) .nil)
  .nil)))))))
  (.cons (.ret (.con (.bl true)))
  .nil)))) }
/-- _law_refused_right: 0 jar, 1 many, 2 width, 3 least, 4 size, 5 some, 6 due, 7 bad, 8 room -/
def F27 : Def := { ps := 2, n := 9, own := false, body :=
  (.cons (.set (.name 2) (.call 19 (.cons (.var 1) .nil)))
  (.cons (.set (.name 3) (.bin .mul (.var 2) (.bin .add (.var 2) (.con (.int 1)))))
  (.cons (.par [7, 8] (.cons (.call 17 (.cons (.var 0) (.cons (.con (.int 1)) (.cons (.con (.int 16)) .nil)))) (.cons (.call 14 (.cons (.var 0) (.cons (.lis (.dis (.cons (.neg (.con (.int 1))) (.cons (.var 1) (.cons (.con .non) (.cons (.con (.bl true)) (.cons (.con (.str "0")) (.cons (.tup (.cons (.con (.int 0)) .nil)) (.cons (.bin .pow (.con (.int 10)) (.con (.int 30))) .nil))))))))) .nil))) .nil)))
  (.cons (.set (.name 4) (.call 14 (.cons (.var 0) (.cons (.lis (.dis (.cons (.bin .sub (.var 3) (.con (.int 1))) (.cons (.con (.int 0)) (.cons (.neg (.con (.int 1))) (.cons (.con (.int 5001)) (.cons (.con .non) (.cons (.con (.bl true)) (.cons (.con (.str "99")) (.cons (.bin .pow (.con (.int 10)) (.con (.int 30))) .nil)))))))))) .nil))))
  (.cons (.set (.name 5) (.new (.dis (.cons (.callL 23 (.cons (.lamb 5) .nil)) .nil))))
  (.cons (.ex (.me .append (.var 5) (.cons (.callL 23 (.cons (.lamb 4) .nil)) .nil)))
  (.cons (.ex (.me .append (.var 5) (.cons (.callL 23 (.cons (.lamb 3) .nil)) .nil)))
  (.cons (.ex (.me .append (.var 5) (.cons (.callL 23 (.cons (.lamb 2) .nil)) .nil)))
  (.cons (.ex (.me .append (.var 5) (.cons (.callL 23 (.cons (.lamb 1) .nil)) .nil)))
  (.cons (.ex (.me .append (.var 5) (.cons (.callL 23 (.cons (.lamb 0) .nil)) .nil)))
  (.cons (.set (.name 6) (.bin .add (.bin .add (.bin .mul (.lis (.dis (.cons (.tup (.cons (.con (.str "BadMany")) (.cons (.con (.int 0)) .nil))) .nil))) (.con (.int 3))) (.bin .mul (.lis (.dis (.cons (.tup (.cons (.con (.str "BadRoom")) (.cons (.var 8) .nil))) .nil))) (.con (.int 2)))) (.lis (.dis (.cons (.tup (.cons (.con (.str "BadSize")) (.cons (.var 3) .nil))) .nil)))))
  (.cons (.ret (.call 16 (.cons (.var 5) (.cons (.var 6) .nil))))
  .nil)))))))))))) }
/-- law: 0 script, 1 turn, 2 jar, 3 many -/
def F28 : Def := { ps := 1, n := 4, own := false, body :=
  (.cons (.for (.name 1) (.rng (.cons (.con (.int 5)) .nil)) (.cons (.set (.name 2) (.call 12 (.cons (.var 0) (.cons (.var 1) .nil))))
  (.cons (.set (.name 3) (.bin .add (.con (.int 1)) (.call 13 (.cons (.var 2) (.cons (.con (.int 16)) .nil)))))
  (.cons (.ite (.or (.not (.of (.call 25 (.cons (.var 3) .nil)))) (.or (.not (.of (.call 26 (.cons (.var 2) (.cons (.var 3) .nil))))) (.not (.of (.call 27 (.cons (.var 2) (.cons (.var 3) .nil))))))) (.cons (.ret (.con (.bl false)))
  .nil) .nil)
  .nil))))
  (.cons (.ret (.con (.bl true)))
  .nil)) }
def Lm0 : List Nat × E := ([], (.callK 11 .nil (.cons (.var 4) (.cons (.bin .sub (.var 1) (.con (.int 1))) (.cons (.var 1) .nil))) [2, 1, 0]))
def Lm1 : List Nat × E := ([], (.call 11 (.cons (.var 1) (.cons (.var 8) (.cons (.var 4) .nil)))))
def Lm2 : List Nat × E := ([], (.call 10 (.cons (.var 1) (.cons (.var 8) .nil))))
def Lm3 : List Nat × E := ([], (.call 11 (.cons (.var 7) (.cons (.var 8) (.cons (.var 4) .nil)))))
def Lm4 : List Nat × E := ([], (.call 10 (.cons (.var 7) (.cons (.var 8) .nil))))
def Lm5 : List Nat × E := ([], (.call 8 (.cons (.var 7) .nil)))
def tblF : List (List (Option Def)) := [[some F0, some F1, some F2, some F3, some F4, some F5, some F6, some F7, some F8, some F9, some F10, some F11, some F12, some F13, some F14, some F15],
  [some F16, some F17, some F18, some F19, some F20, some F21, some F22, some F23, some F24, some F25, some F26, some F27, some F28]]
def tblL : List (List (Option (List Nat × E))) := [[some Lm0, some Lm1, some Lm2, some Lm3, some Lm4, some Lm5]]
def tblG : List (List (Option D)) := [[some ((.int 5000) : D), some ((.int 16) : D), some ((.tup [(.int 1), (.int 1), (.int 1), (.int 1), (.int 0)]) : D)]]
def clsL : List Nat := [0, 1, 2, 3, 4, 5, 6, 7, 8, 9, 10, 11, 12, 13, 14, 15, 16, 17, 18, 19, 20, 21, 22]
def clsTop : Nat := 0
def prog : Prog := ⟨fun i => (tblF[i / 16]?).bind fun l => (l[i % 16]?).bind id, fun i => (tblL[i / 16]?).bind fun l => (l[i % 16]?).bind id, fun i => (tblG[i / 16]?).bind fun l => (l[i % 16]?).bind id, fun c k => clsL.contains c && (c == k || k == clsTop)⟩
@[simp] theorem gl0 : prog.glo 0 = some ((.int 5000) : D) := (rfl)
@[simp] theorem gl1 : prog.glo 1 = some ((.int 16) : D) := (rfl)
@[simp] theorem gl2 : prog.glo 2 = some ((.tup [(.int 1), (.int 1), (.int 1), (.int 1), (.int 0)]) : D) := (rfl)
end Ev


end
section
set_option Elab.async false
set_option linter.all false
set_option maxRecDepth 100000
set_option autoImplicit false
/-! EvW: rules to run the evaluator by simp. -/
namespace Ev
open PySem L2
section
variable {α β : Type}
@[simp] theorem of_some (a : α) (st : Sto) : Rz.of (some a) st = .ok a st := (rfl)
end
/-! ### what waits for a value: frames, as data -/
inductive Ko : Type → Type → Type 1 where
  | bin (c : Cx) (op : Bop) (b : E) (env : List D) : Ko D D
  | bin2 (op : Bop) (x : D) : Ko D D
  | neg : Ko D D
  | cmp (c : Cx) (op : Cop) (b : E) (env : List D) : Ko D D
  | cmp2 (op : Cop) (x : D) : Ko D D
  | chn (c : Cx) (op op2 : Cop) (b d : E) (env : List D) : Ko D D
  | chn2 (c : Cx) (op op2 : Cop) (x : D) (d : E) (env : List D) : Ko D D
  | chn3 (c : Cx) (op2 : Cop) (y : D) (d : E) (env : List D) : Ko D D
  | chn4 (op2 : Cop) (y : D) : Ko D D
  | isN : Ko D D
  | notN : Ko D D
  | and (c : Cx) (b : E) (env : List D) : Ko D D
  | or (c : Cx) (b : E) (env : List D) : Ko D D
  | not : Ko D D
  | ite (c : Cx) (a b : E) (env : List D) : Ko Bool D
  | ix (c : Cx) (i : E) (env : List D) : Ko D D
  | ix2 (x : D) : Ko D D
  | sl (c : Cx) (lo hi : E) (env : List D) : Ko D D
  | sl1 (c : Cx) (x : D) (hi : E) (env : List D) : Ko D D
  | sl2 (c : Cx) (x : D) (hi : E) (env : List D) : Ko (Option Int) D
  | sl3 (x : D) (lo : Option Int) : Ko D D
  | sl4 (x : D) (lo : Option Int) : Ko (Option Int) D
  | tup : Ko (List D) D
  | lis : Ko (List D) D
  | new : Ko (List D) D
  | call (c : Cx) (f : Nat) : Ko (List D) D
  | callL (c : Cx) (f : Nat) : Ko (List D) D
  | callK (c : Cx) (f : Nat) (ks : Es) (perm : List Nat) (env : List D) : Ko (List D) D
  | callK2 (c : Cx) (f : Nat) (ds : List D) (perm : List Nat) : Ko (List D) D
  | bi (b : Bi) : Ko (List D) D
  | lenSet : Ko D D
  | me (c : Cx) (m : Me) (es : Es) (env : List D) : Ko D D
  | me2 (c : Cx) (m : Me) (x : D) : Ko (List D) D
  | lamb (c : Cx) (k : Nat) (cap : List D) : Ko (List D) D
  | cons (c : Cx) (r : Es) (env : List D) : Ko D (List D)
  | cons2 (d : D) : Ko (List D) (List D)
  | ofT : Ko D Bool
  | andT (c : Cx) (b : T) (env : List D) : Ko Bool Bool
  | orT (c : Cx) (b : T) (env : List D) : Ko Bool Bool
  | notT : Ko Bool Bool
  | dis : Ko (List D) (List D)
  | cmpF (c : Cx) (e : E) (p : Pat) (env : List D) : Ko Src (List D)
  | cmpIfF (c : Cx) (t : T) (e : E) (p : Pat) (env : List D) : Ko Src (List D)
  | ofL : Ko D (List D)
  | rep (c : Cx) (n : E) (env : List D) : Ko (List D) (List D)
  | rep2 (ds : List D) : Ko D (List D)
  | cat (c : Cx) (b : E) (env : List D) : Ko D (List D)
  | cat2 (x : D) : Ko D (List D)
  | cut (c : Cx) (lo hi : E) (env : List D) : Ko D (List D)
  | cut1 (c : Cx) (x : D) (hi : E) (env : List D) : Ko D (List D)
  | cut2 (c : Cx) (x : D) (hi : E) (env : List D) : Ko (Option Int) (List D)
  | cut3 (x : D) (lo : Option Int) : Ko D (List D)
  | cut4 (x : D) (lo : Option Int) : Ko (Option Int) (List D)
  | ofI : Ko D Src
  | rng : Ko (List D) Src
  | enu : Ko D Src
def negD (x : D) (st : Sto) : Rz D := match x with
  | .int i => .ok (.int (-i)) st
  | _ => .no
@[simp] theorem negD_int (i : Int) (st : Sto) : negD (.int i) st = .ok (.int (-i)) st := (rfl)
def srcD (st : Sto) (d : D) : Rz Src := match d with
  | .tup ds => .ok (.its ds) st
  | .lst ds => .ok (.its ds) st
  | .scr ds => .ok (.its ds) st
  | .ref n => .ok (.cell n) st
  | .str z => bif fit z.length then .ok (.its (z.cps.toList.map fun k => .str ⟨#[k]⟩)) st else .no
  | _ => .no
def enuS (st : Sto) (d : D) : Rz Src := match d with
  | .lst ds => .ok (.its (enuD ds)) st
  | _ => .no
def repL (ds : List D) (k : D) (st : Sto) : Rz (List D) := match k with
  | .int k => bif repOk ds.length k then .ok (repD ds k) st else .no
  | _ => .no
def catL (a b : Option (List D)) (st : Sto) : Rz (List D) := match a, b with
  | some xs, some ys => bif fit (xs.length + ys.length) then .ok (xs ++ ys) st else .no
  | _, _ => .no
/-- a comprehension's walk -/
def compE (c : Cx) (e : E) (p : Pat) (env : List D) (s : Src) (st : Sto) : Rz (List D) := compS p env (fun _ st => .ok true st) (fun env st => (evE c e env st).calm) s st
def compTE (c : Cx) (t : T) (e : E) (p : Pat) (env : List D) (s : Src) (st : Sto) : Rz (List D) := compS p env (fun env st => (evT c t env st).calm) (fun env st => (evE c e env st).calm) s st
/-- the choice by a Bool -/
def pick {α : Type} (b : Bool) (x y : Unit → α) : α := match b with
  | true => x ()
  | false => y ()
@[simp] theorem pick_true {α : Type} (x y : Unit → α) : pick true x y = x () := (rfl)
@[simp] theorem pick_false {α : Type} (x y : Unit → α) : pick false x y = y () := (rfl)
theorem cond_pick {α : Type} (b : Bool) (x y : α) : (bif b then x else y) = pick b (fun _ => x) (fun _ => y) := by cases b <;> rfl
/-- a value if the test holds -/
def okIf {α : Type} (b : Bool) (a : α) (st : Sto) : Rz α := bif b then .ok a st else .no
@[simp] theorem okIf_true {α : Type} (a : α) (st : Sto) : okIf true a st = .ok a st := (rfl)
def iteE (k : Bool) (c : Cx) (a b : E) (env : List D) (st : Sto) : Rz D := bif k then evE c a env st else evE c b env st
@[simp] theorem iteE_true (c : Cx) (a b : E) (env : List D) (st : Sto) : iteE true c a b env st = evE c a env st := (rfl)
@[simp] theorem iteE_false (c : Cx) (a b : E) (env : List D) (st : Sto) : iteE false c a b env st = evE c b env st := (rfl)
def andO (o : Option Bool) (x : D) (c : Cx) (b : E) (env : List D) (st : Sto) : Rz D := match o with
  | some true => evE c b env st
  | some false => .ok x st
  | none => .no
@[simp] theorem andO_true (x : D) (c : Cx) (b : E) (env : List D) (st : Sto) : andO (some true) x c b env st = evE c b env st := (rfl)
@[simp] theorem andO_false (x : D) (c : Cx) (b : E) (env : List D) (st : Sto) : andO (some false) x c b env st = .ok x st := (rfl)
def orO (o : Option Bool) (x : D) (c : Cx) (b : E) (env : List D) (st : Sto) : Rz D := match o with
  | some false => evE c b env st
  | some true => .ok x st
  | none => .no
@[simp] theorem orO_false (x : D) (c : Cx) (b : E) (env : List D) (st : Sto) : orO (some false) x c b env st = evE c b env st := (rfl)
@[simp] theorem orO_true (x : D) (c : Cx) (b : E) (env : List D) (st : Sto) : orO (some true) x c b env st = .ok x st := (rfl)
/-- behind the first test of a chain -/
def chnZ (z : D) (c : Cx) (op2 : Cop) (y : D) (d : E) (env : List D) (st : Sto) : Rz D := match z with
  | .bl true => (evE c d env st).bind fun u st => cmpD st op2 y u
  | .bl false => .ok (.bl false) st
  | _ => .no
def andB (k : Bool) (c : Cx) (b : T) (env : List D) (st : Sto) : Rz Bool := bif k then evT c b env st else .ok false st
@[simp] theorem andB_true (c : Cx) (b : T) (env : List D) (st : Sto) : andB true c b env st = evT c b env st := (rfl)
@[simp] theorem andB_false (c : Cx) (b : T) (env : List D) (st : Sto) : andB false c b env st = .ok false st := (rfl)
def orB (k : Bool) (c : Cx) (b : T) (env : List D) (st : Sto) : Rz Bool := bif k then .ok true st else evT c b env st
@[simp] theorem orB_false (c : Cx) (b : T) (env : List D) (st : Sto) : orB false c b env st = evT c b env st := (rfl)
@[simp] theorem orB_true (c : Cx) (b : T) (env : List D) (st : Sto) : orB true c b env st = .ok true st := (rfl)
def meB (k : Bool) (c : Cx) (m : Me) (x : D) (es : Es) (env : List D) (st : Sto) : Rz D := bif k then (evEs c es env st).bind fun ds st => meD c.n0 st m x ds else .no
def kCallK (c : Cx) (f : Nat) (as : Option (List D)) (st : Sto) : Rz D := match as with
  | some as => c.call f as st
  | none => .no
@[simp] theorem kCallK_some (c : Cx) (f : Nat) (as : List D) (st : Sto) : kCallK c f (some as) st = c.call f as st := (rfl)
def Ko.run {α β : Type} : Ko α β → α → Sto → Rz β
  | .bin c op b env => fun x st => (evE c b env st).bind fun y st => binD st op x y
  | .bin2 op x => fun y st => binD st op x y
  | .neg => negD
  | .cmp c op b env => fun x st => (evE c b env st).bind fun y st => cmpD st op x y
  | .cmp2 op x => fun y st => cmpD st op x y
  | .chn c op op2 b d env => fun x st => (evE c b env st).bind fun y st => (cmpD st op x y).bind fun z st => chnZ z c op2 y d env st
  | .chn2 c op op2 x d env => fun y st => (cmpD st op x y).bind fun z st => chnZ z c op2 y d env st
  | .chn3 c op2 y d env => fun z st => chnZ z c op2 y d env st
  | .chn4 op2 y => fun u st => cmpD st op2 y u
  | .isN => fun x st => .ok (.bl (isNon x)) st
  | .notN => fun x st => .ok (.bl !(isNon x)) st
  | .and c b env => fun x st => andO (truth st x) x c b env st
  | .or c b env => fun x st => orO (truth st x) x c b env st
  | .not => fun x st => Rz.of ((truth st x).map fun k => .bl (!k)) st
  | .ite c a b env => fun k st => iteE k c a b env st
  | .ix c i env => fun x st => (evE c i env st).bind fun y st => ixD st x y
  | .ix2 x => fun y st => ixD st x y
  | .sl c lo hi env => fun x st => ((evE c lo env st).bind fun d st => Rz.of (bnd d) st).bind fun l st => ((evE c hi env st).bind fun d st => Rz.of (bnd d) st).bind fun h st => slD st x l h
  | .sl1 c x hi env => fun d st => (Rz.of (bnd d) st).bind fun l st => ((evE c hi env st).bind fun d st => Rz.of (bnd d) st).bind fun h st => slD st x l h
  | .sl2 c x hi env => fun l st => ((evE c hi env st).bind fun d st => Rz.of (bnd d) st).bind fun h st => slD st x l h
  | .sl3 x l => fun d st => (Rz.of (bnd d) st).bind fun h st => slD st x l h
  | .sl4 x l => fun h st => slD st x l h
  | .tup => fun ds st => okIf (fit ds.length) (.tup ds) st
  | .lis => fun ds st => .ok (.lst ds) st
  | .new => fun ds st => .ok (.ref st.length) (st ++ [.lst ds])
  | .call c f => fun ds st => c.call f ds st
  | .callL c f => fun ds st => (c.call f ds st).plain
  | .callK c f ks perm env => fun ds st => (evEs c ks env st).bind fun zs st => kCallK c f (mapO (fun i => (ds ++ zs)[i]?) perm) st
  | .callK2 c f ds perm => fun zs st => kCallK c f (mapO (fun i => (ds ++ zs)[i]?) perm) st
  | .bi b => fun ds st => biD st b ds
  | .lenSet => fun d st => lenSetD st d
  | .me c m es env => fun x st => meB (recv st m x) c m x es env st
  | .me2 c m x => fun ds st => meD c.n0 st m x ds
  | .lamb c k cap => fun ds st => c.lamb k cap ds st
  | .cons c r env => fun d st => (evEs c r env st).bind fun ds st => .ok (d :: ds) st
  | .cons2 d => fun ds st => .ok (d :: ds) st
  | .ofT => fun d st => Rz.of (truth st d) st
  | .andT c b env => fun k st => andB k c b env st
  | .orT c b env => fun k st => orB k c b env st
  | .notT => fun k st => .ok (!k) st
  | .dis => fun ds st => okIf (fit ds.length) ds st
  | .cmpF c e p env => fun s st => compE c e p env s st
  | .cmpIfF c t e p env => fun s st => compTE c t e p env s st
  | .ofL => fun d st => Rz.of (items st d) st
  | .rep c n env => fun ds st => (evE c n env st).bind fun k st => repL ds k st
  | .rep2 ds => fun k st => repL ds k st
  | .cat c b env => fun x st => (evE c b env st).bind fun y st => catL (litems st x) (litems st y) st
  | .cat2 x => fun y st => catL (litems st x) (litems st y) st
  | .cut c lo hi env => fun x st => ((evE c lo env st).bind fun d st => Rz.of (bnd d) st).bind fun l st => ((evE c hi env st).bind fun d st => Rz.of (bnd d) st).bind fun h st => Rz.of ((litems st x).map fun ds => cutD ds l h) st
  | .cut1 c x hi env => fun d st => (Rz.of (bnd d) st).bind fun l st => ((evE c hi env st).bind fun d st => Rz.of (bnd d) st).bind fun h st => Rz.of ((litems st x).map fun ds => cutD ds l h) st
  | .cut2 c x hi env => fun l st => ((evE c hi env st).bind fun d st => Rz.of (bnd d) st).bind fun h st => Rz.of ((litems st x).map fun ds => cutD ds l h) st
  | .cut3 x l => fun d st => (Rz.of (bnd d) st).bind fun h st => Rz.of ((litems st x).map fun ds => cutD ds l h) st
  | .cut4 x l => fun h st => Rz.of ((litems st x).map fun ds => cutD ds l h) st
  | .ofI => fun d st => srcD st d
  | .rng => fun ds st => Rz.of ((rngD ds).map .its) st
  | .enu => fun d st => enuS st d
/-- a value, then what waits for it -/
def bk {α β : Type} (x : Rz α) (k : Ko α β) : Rz β := x.bind k.run
@[simp] theorem rbind_ok {α β : Type} (a : α) (st : Sto) (f : α → Sto → Rz β) : (Rz.ok a st).bind f = f a st := (rfl)
theorem rbind_assoc {α β γ : Type} (x : Rz α) (f : α → Sto → Rz β) (g : β → Sto → Rz γ) : (x.bind f).bind g = x.bind fun a st => (f a st).bind g := by cases x <;> rfl
@[simp] theorem bk_ok {α β : Type} (a : α) (st : Sto) (k : Ko α β) : bk (.ok a st) k = k.run a st := (rfl)
@[simp] theorem bk_er {α β : Type} (i : Nat) (w : D) (st : Sto) (k : Ko α β) : bk (.er i w st) k = .er i w st := (rfl)
@[simp] theorem bk_no {α β : Type} (k : Ko α β) : bk .no k = .no := (rfl)
section
variable (c : Cx) (env : List D) (st : Sto)
@[simp] theorem k_bin (op : Bop) (b : E) (x : D) : (Ko.bin c op b env).run x st = bk (evE c b env st) (.bin2 op x) := (rfl)
@[simp] theorem k_bin2 (op : Bop) (x y : D) : (Ko.bin2 op x).run y st = binD st op x y := (rfl)
@[simp] theorem k_neg (x : D) : Ko.neg.run x st = negD x st := (rfl)
@[simp] theorem k_cmp (op : Cop) (b : E) (x : D) : (Ko.cmp c op b env).run x st = bk (evE c b env st) (.cmp2 op x) := (rfl)
@[simp] theorem k_cmp2 (op : Cop) (x y : D) : (Ko.cmp2 op x).run y st = cmpD st op x y := (rfl)
@[simp] theorem k_chn (op op2 : Cop) (b d : E) (x : D) : (Ko.chn c op op2 b d env).run x st = bk (evE c b env st) (.chn2 c op op2 x d env) := (rfl)
@[simp] theorem k_chn2 (op op2 : Cop) (x y : D) (d : E) : (Ko.chn2 c op op2 x d env).run y st = bk (cmpD st op x y) (.chn3 c op2 y d env) := (rfl)
@[simp] theorem k_chn3 (op2 : Cop) (y : D) (d : E) (z : D) : (Ko.chn3 c op2 y d env).run z st = chnZ z c op2 y d env st := (rfl)
@[simp] theorem chnZ_true (op2 : Cop) (y : D) (d : E) : chnZ (.bl true) c op2 y d env st = bk (evE c d env st) (.chn4 op2 y) := (rfl)
@[simp] theorem chnZ_false (op2 : Cop) (y : D) (d : E) : chnZ (.bl false) c op2 y d env st = .ok (.bl false) st := (rfl)
@[simp] theorem k_chn4 (op2 : Cop) (y u : D) : (Ko.chn4 op2 y).run u st = cmpD st op2 y u := (rfl)
@[simp] theorem k_isN (x : D) : Ko.isN.run x st = .ok (.bl (isNon x)) st := (rfl)
@[simp] theorem k_notN (x : D) : Ko.notN.run x st = .ok (.bl !(isNon x)) st := (rfl)
@[simp] theorem k_and (b : E) (x : D) : (Ko.and c b env).run x st = andO (truth st x) x c b env st := (rfl)
@[simp] theorem k_or (b : E) (x : D) : (Ko.or c b env).run x st = orO (truth st x) x c b env st := (rfl)
@[simp] theorem k_not (x : D) : Ko.not.run x st = Rz.of ((truth st x).map fun k => .bl (!k)) st := (rfl)
@[simp] theorem k_ite (a b : E) (k : Bool) : (Ko.ite c a b env).run k st = iteE k c a b env st := (rfl)
@[simp] theorem k_ix (i : E) (x : D) : (Ko.ix c i env).run x st = bk (evE c i env st) (.ix2 x) := (rfl)
@[simp] theorem k_ix2 (x y : D) : (Ko.ix2 x).run y st = ixD st x y := (rfl)
@[simp] theorem k_sl (lo hi : E) (x : D) : (Ko.sl c lo hi env).run x st = bk (evE c lo env st) (.sl1 c x hi env) := by
  unfold bk
  simp only [Ko.run, rbind_assoc]
@[simp] theorem k_sl1 (hi : E) (x d : D) : (Ko.sl1 c x hi env).run d st = bk (Rz.of (bnd d) st) (.sl2 c x hi env) := (rfl)
@[simp] theorem k_sl2 (hi : E) (x : D) (l : Option Int) : (Ko.sl2 c x hi env).run l st = bk (evE c hi env st) (.sl3 x l) := by
  unfold bk
  simp only [Ko.run, rbind_assoc]
@[simp] theorem k_sl3 (x d : D) (l : Option Int) : (Ko.sl3 x l).run d st = bk (Rz.of (bnd d) st) (.sl4 x l) := (rfl)
@[simp] theorem k_sl4 (x : D) (l h : Option Int) : (Ko.sl4 x l).run h st = slD st x l h := (rfl)
@[simp] theorem k_tup (ds : List D) : Ko.tup.run ds st = okIf (fit ds.length) (.tup ds) st := (rfl)
@[simp] theorem k_lis (ds : List D) : Ko.lis.run ds st = .ok (.lst ds) st := (rfl)
@[simp] theorem k_new (ds : List D) : Ko.new.run ds st = .ok (.ref st.length) (st ++ [.lst ds]) := (rfl)
@[simp] theorem k_call (f : Nat) (ds : List D) : (Ko.call c f).run ds st = c.call f ds st := (rfl)
@[simp] theorem k_callL (f : Nat) (ds : List D) : (Ko.callL c f).run ds st = (c.call f ds st).plain := (rfl)
@[simp] theorem k_callK (f : Nat) (ks : Es) (perm : List Nat) (ds : List D) : (Ko.callK c f ks perm env).run ds st = bk (evEs c ks env st) (.callK2 c f ds perm) := (rfl)
@[simp] theorem k_callK2 (f : Nat) (perm : List Nat) (ds zs : List D) : (Ko.callK2 c f ds perm).run zs st = kCallK c f (mapO (fun i => (ds ++ zs)[i]?) perm) st := (rfl)
@[simp] theorem k_bi (b : Bi) (ds : List D) : (Ko.bi b).run ds st = biD st b ds := (rfl)
@[simp] theorem k_lenSet (d : D) : Ko.lenSet.run d st = lenSetD st d := (rfl)
@[simp] theorem k_me (m : Me) (es : Es) (x : D) : (Ko.me c m es env).run x st = meB (recv st m x) c m x es env st := (rfl)
@[simp] theorem meB_true (m : Me) (es : Es) (x : D) : meB true c m x es env st = bk (evEs c es env st) (.me2 c m x) := (rfl)
@[simp] theorem k_me2 (m : Me) (x : D) (ds : List D) : (Ko.me2 c m x).run ds st = meD c.n0 st m x ds := (rfl)
@[simp] theorem k_lamb (k : Nat) (cap ds : List D) : (Ko.lamb c k cap).run ds st = c.lamb k cap ds st := (rfl)
@[simp] theorem k_cons (r : Es) (d : D) : (Ko.cons c r env).run d st = bk (evEs c r env st) (.cons2 d) := (rfl)
@[simp] theorem k_cons2 (d : D) (ds : List D) : (Ko.cons2 d).run ds st = .ok (d :: ds) st := (rfl)
@[simp] theorem k_ofT (d : D) : Ko.ofT.run d st = Rz.of (truth st d) st := (rfl)
@[simp] theorem k_andT (b : T) (k : Bool) : (Ko.andT c b env).run k st = andB k c b env st := (rfl)
@[simp] theorem k_orT (b : T) (k : Bool) : (Ko.orT c b env).run k st = orB k c b env st := (rfl)
@[simp] theorem k_notT (k : Bool) : Ko.notT.run k st = .ok (!k) st := (rfl)
@[simp] theorem k_dis (ds : List D) : Ko.dis.run ds st = okIf (fit ds.length) ds st := (rfl)
@[simp] theorem k_cmpF (e : E) (p : Pat) (s : Src) : (Ko.cmpF c e p env).run s st = compE c e p env s st := (rfl)
@[simp] theorem k_cmpIfF (t : T) (e : E) (p : Pat) (s : Src) : (Ko.cmpIfF c t e p env).run s st = compTE c t e p env s st := (rfl)
@[simp] theorem k_ofL (d : D) : Ko.ofL.run d st = Rz.of (items st d) st := (rfl)
@[simp] theorem k_rep (n : E) (ds : List D) : (Ko.rep c n env).run ds st = bk (evE c n env st) (.rep2 ds) := (rfl)
@[simp] theorem k_rep2 (ds : List D) (k : D) : (Ko.rep2 ds).run k st = repL ds k st := (rfl)
@[simp] theorem repL_int (ds : List D) (k : Int) : repL ds (.int k) st = okIf (repOk ds.length k) (repD ds k) st := (rfl)
@[simp] theorem k_cat (b : E) (x : D) : (Ko.cat c b env).run x st = bk (evE c b env st) (.cat2 x) := (rfl)
@[simp] theorem k_cat2 (x y : D) : (Ko.cat2 x).run y st = catL (litems st x) (litems st y) st := (rfl)
@[simp] theorem catL_some (xs ys : List D) : catL (some xs) (some ys) st = okIf (fit (xs.length + ys.length)) (xs ++ ys) st := (rfl)
@[simp] theorem k_cut (lo hi : E) (x : D) : (Ko.cut c lo hi env).run x st = bk (evE c lo env st) (.cut1 c x hi env) := by
  unfold bk
  simp only [Ko.run, rbind_assoc]
@[simp] theorem k_cut1 (hi : E) (x d : D) : (Ko.cut1 c x hi env).run d st = bk (Rz.of (bnd d) st) (.cut2 c x hi env) := (rfl)
@[simp] theorem k_cut2 (hi : E) (x : D) (l : Option Int) : (Ko.cut2 c x hi env).run l st = bk (evE c hi env st) (.cut3 x l) := by
  unfold bk
  simp only [Ko.run, rbind_assoc]
@[simp] theorem k_cut3 (x d : D) (l : Option Int) : (Ko.cut3 x l).run d st = bk (Rz.of (bnd d) st) (.cut4 x l) := (rfl)
@[simp] theorem k_cut4 (x : D) (l h : Option Int) : (Ko.cut4 x l).run h st = Rz.of ((litems st x).map fun ds => cutD ds l h) st := (rfl)
@[simp] theorem k_ofI (d : D) : Ko.ofI.run d st = srcD st d := (rfl)
@[simp] theorem k_rng (ds : List D) : Ko.rng.run ds st = Rz.of ((rngD ds).map .its) st := (rfl)
@[simp] theorem k_enu (d : D) : Ko.enu.run d st = enuS st d := (rfl)
@[simp] theorem srcD_tup (ds : List D) : srcD st (.tup ds) = .ok (.its ds) st := (rfl)
@[simp] theorem srcD_lst (ds : List D) : srcD st (.lst ds) = .ok (.its ds) st := (rfl)
@[simp] theorem srcD_scr (ds : List D) : srcD st (.scr ds) = .ok (.its ds) st := (rfl)
@[simp] theorem srcD_ref (n : Nat) : srcD st (.ref n) = .ok (.cell n) st := (rfl)
@[simp] theorem enuS_lst (ds : List D) : enuS st (.lst ds) = .ok (.its (enuD ds)) st := (rfl)
end
/-- a slot's datum -/
def Rz.vr : Option D → Sto → Rz D
  | some .no, _ => .no
  | some d, st => .ok d st
  | none, _ => .no
@[simp] theorem vr_int (i : Int) (st : Sto) : Rz.vr (some (.int i)) st = .ok (.int i) st := (rfl)
@[simp] theorem vr_bl (i : Bool) (st : Sto) : Rz.vr (some (.bl i)) st = .ok (.bl i) st := (rfl)
@[simp] theorem vr_non (st : Sto) : Rz.vr (some .non) st = .ok .non st := (rfl)
@[simp] theorem vr_str (i : Str) (st : Sto) : Rz.vr (some (.str i)) st = .ok (.str i) st := (rfl)
@[simp] theorem vr_tup (i : List D) (st : Sto) : Rz.vr (some (.tup i)) st = .ok (.tup i) st := (rfl)
@[simp] theorem vr_lst (i : List D) (st : Sto) : Rz.vr (some (.lst i)) st = .ok (.lst i) st := (rfl)
@[simp] theorem vr_scr (i : List D) (st : Sto) : Rz.vr (some (.scr i)) st = .ok (.scr i) st := (rfl)
@[simp] theorem vr_set (i : List D) (st : Sto) : Rz.vr (some (.set i)) st = .ok (.set i) st := (rfl)
@[simp] theorem vr_dic (i j : List D) (st : Sto) : Rz.vr (some (.dic i j)) st = .ok (.dic i j) st := (rfl)
@[simp] theorem vr_ref (i : Nat) (st : Sto) : Rz.vr (some (.ref i)) st = .ok (.ref i) st := (rfl)
@[simp] theorem vr_lam (i : Nat) (c : List D) (st : Sto) : Rz.vr (some (.lam i c)) st = .ok (.lam i c) st := (rfl)
@[simp] theorem vr_ty (i : String) (st : Sto) : Rz.vr (some (.ty i)) st = .ok (.ty i) st := (rfl)
theorem vr_pure {d : D} (h : d.pure = true) (st : Sto) : Rz.vr (some d) st = .ok d st := by
  cases d <;> first | rfl | simp [D.pure] at h
/-! ### expressions -/
section
variable (c : Cx) (env : List D) (st : Sto)
@[simp] theorem evE_var (i : Nat) : evE c (.var i) env st = Rz.vr env[i]? st := by
  rw [evE]
  cases env[i]? with
  | none => rfl
  | some d => cases d <;> rfl
@[simp] theorem evE_con (d : D) : evE c (.con d) env st = .ok d st := by rw [evE]
@[simp] theorem evE_glo (k : Nat) : evE c (.glo k) env st = Rz.of (c.glo k) st := by
  rw [evE]
  cases c.glo k <;> rfl
@[simp] theorem evE_bin (op : Bop) (a b : E) : evE c (.bin op a b) env st = bk (evE c a env st) (.bin c op b env) := by
  rw [evE]
  rfl
theorem neg_fun : (fun (x : D) (st : Sto) => (match x with
    | .int i => Rz.ok (.int (-i)) st
    | _ => .no : Rz D)) = negD := rfl
@[simp] theorem evE_neg (a : E) : evE c (.neg a) env st = bk (evE c a env st) .neg := by
  rw [evE]
  rfl
@[simp] theorem evE_cmp (op : Cop) (a b : E) : evE c (.cmp op a b) env st = bk (evE c a env st) (.cmp c op b env) := by
  rw [evE]
  rfl
@[simp] theorem evE_chn (op op2 : Cop) (a b d : E) : evE c (.chn op op2 a b d) env st = bk (evE c a env st) (.chn c op op2 b d env) := by
  rw [evE]
  rfl
@[simp] theorem evE_isN (a : E) : evE c (.isN a) env st = bk (evE c a env st) .isN := by
  rw [evE]
  rfl
@[simp] theorem evE_notN (a : E) : evE c (.notN a) env st = bk (evE c a env st) .notN := by
  rw [evE]
  rfl
theorem bk_fun {α β : Type} {x : Rz α} {f : α → Sto → Rz β} {k : Ko α β} (h : ∀ a st, f a st = k.run a st) : x.bind f = bk x k := by
  unfold bk
  rw [show f = k.run from funext fun a => funext fun st => h a st]
@[simp] theorem evE_and (a b : E) : evE c (.and a b) env st = bk (evE c a env st) (.and c b env) := by
  rw [evE]
  refine bk_fun fun x st => ?_
  rw [k_and]
  cases truth st x with
  | none => rfl
  | some b => cases b <;> rfl
@[simp] theorem evE_or (a b : E) : evE c (.or a b) env st = bk (evE c a env st) (.or c b env) := by
  rw [evE]
  refine bk_fun fun x st => ?_
  rw [k_or]
  cases truth st x with
  | none => rfl
  | some b => cases b <;> rfl
@[simp] theorem evE_not (a : E) : evE c (.not a) env st = bk (evE c a env st) .not := by
  rw [evE]
  refine bk_fun fun x st => ?_
  rw [k_not]
  cases truth st x <;> rfl
@[simp] theorem evE_ite (t : T) (a b : E) : evE c (.ite t a b) env st = bk (evT c t env st) (.ite c a b env) := by
  rw [evE]
  rfl
@[simp] theorem evE_ix (o i : E) : evE c (.ix o i) env st = bk (evE c o env st) (.ix c i env) := by
  rw [evE]
  rfl
@[simp] theorem evE_sl (o lo hi : E) : evE c (.sl o lo hi) env st = bk (evE c o env st) (.sl c lo hi env) := by
  rw [evE]
  rfl
@[simp] theorem evE_tup (es : Es) : evE c (.tup es) env st = bk (evEs c es env st) .tup := by
  rw [evE]
  rfl
@[simp] theorem evE_lis (l : L) : evE c (.lis l) env st = bk (evL c l env st) .lis := by
  rw [evE]
  rfl
@[simp] theorem evE_new (l : L) : evE c (.new l) env st = bk (evL c l env st) .new := by
  rw [evE]
  rfl
@[simp] theorem evE_call (f : Nat) (es : Es) : evE c (.call f es) env st = bk (evEs c es env st) (.call c f) := by
  rw [evE]
  rfl
@[simp] theorem evE_callL (f : Nat) (es : Es) : evE c (.callL f es) env st = bk (evEs c es env st) (.callL c f) := by
  rw [evE]
  rfl
@[simp] theorem evE_callK (f : Nat) (es ks : Es) (perm : List Nat) : evE c (.callK f es ks perm) env st = bk (evEs c es env st) (.callK c f ks perm env) := by
  rw [evE]
  refine bk_fun fun ds st => ?_
  rw [k_callK]
  refine bk_fun fun zs st => ?_
  rw [k_callK2]
  cases mapO (fun i => (ds ++ zs)[i]?) perm <;> rfl
@[simp] theorem evE_bi (b : Bi) (es : Es) : evE c (.bi b es) env st = bk (evEs c es env st) (.bi b) := by
  rw [evE]
  rfl
@[simp] theorem evE_lenSet (e : E) : evE c (.lenSet e) env st = bk (evE c e env st) .lenSet := by
  rw [evE]
  rfl
@[simp] theorem evE_me (m : Me) (o : E) (es : Es) : evE c (.me m o es) env st = bk (evE c o env st) (.me c m es env) := by
  rw [evE]
  rfl
@[simp] theorem evE_lamb (i : Nat) : evE c (.lamb i) env st = .ok (.lam i env) st := by rw [evE]
def Rz.cl (c : Cx) (o : Option D) (es : Es) (env : List D) (st : Sto) : Rz D := match o with
  | some (.lam k cap) => (evEs c es env st).bind fun ds st => c.lamb k cap ds st
  | _ => .no
@[simp] theorem cl_lam (k : Nat) (cap : List D) (es : Es) : Rz.cl c (some (.lam k cap)) es env st = bk (evEs c es env st) (.lamb c k cap) := (rfl)
@[simp] theorem evE_cal (i : Nat) (es : Es) : evE c (.cal i es) env st = Rz.cl c env[i]? es env st := by
  rw [evE]
  rfl
@[simp] theorem evEs_nil : evEs c .nil env st = .ok [] st := by rw [evEs]
@[simp] theorem evEs_cons (e : E) (r : Es) : evEs c (.cons e r) env st = bk (evE c e env st) (.cons c r env) := by
  rw [evEs]
  rfl
@[simp] theorem evT_of (e : E) : evT c (.of e) env st = bk (evE c e env st) .ofT := by
  rw [evT]
  refine bk_fun fun d st => ?_
  rw [k_ofT]
  cases truth st d <;> rfl
@[simp] theorem evT_and (a b : T) : evT c (.and a b) env st = bk (evT c a env st) (.andT c b env) := by
  rw [evT]
  rfl
@[simp] theorem evT_or (a b : T) : evT c (.or a b) env st = bk (evT c a env st) (.orT c b env) := by
  rw [evT]
  rfl
@[simp] theorem evT_not (a : T) : evT c (.not a) env st = bk (evT c a env st) .notT := by
  rw [evT]
  rfl
@[simp] theorem evL_dis (es : Es) : evL c (.dis es) env st = bk (evEs c es env st) .dis := by
  rw [evL]
  rfl
@[simp] theorem evL_cmp (own : List Nat) (p : Pat) (it : I) (e : E) : evL c (.cmp own p it e) env st = bk (evI c it env st) (.cmpF c e p (wipeD env own)) := by
  rw [evL]
  rfl
@[simp] theorem evL_cmpIf (own : List Nat) (p : Pat) (it : I) (t : T) (e : E) : evL c (.cmpIf own p it t e) env st = bk (evI c it env st) (.cmpIfF c t e p (wipeD env own)) := by
  rw [evL]
  rfl
@[simp] theorem evL_of (e : E) : evL c (.of e) env st = bk (evE c e env st) .ofL := by
  rw [evL]
  rfl
@[simp] theorem evL_rep (a : L) (n : E) : evL c (.rep a n) env st = bk (evL c a env st) (.rep c n env) := by
  rw [evL]
  rfl
@[simp] theorem evL_cat (a b : E) : evL c (.cat a b) env st = bk (evE c a env st) (.cat c b env) := by
  rw [evL]
  rfl
@[simp] theorem evL_cut (o lo hi : E) : evL c (.cut o lo hi) env st = bk (evE c o env st) (.cut c lo hi env) := by
  rw [evL]
  refine bk_fun fun x st => ?_
  unfold Ko.run
  congr 1
  funext l st
  congr 1
  funext h st
  cases litems st x <;> rfl
@[simp] theorem evI_of (e : E) : evI c (.of e) env st = bk (evE c e env st) .ofI := by
  rw [evI]
  rfl
@[simp] theorem evI_rng (es : Es) : evI c (.rng es) env st = bk (evEs c es env st) .rng := by
  rw [evI]
  rfl
@[simp] theorem evI_enu (e : E) : evI c (.enu e) env st = bk (evE c e env st) .enu := by
  rw [evI]
  rfl
end
@[simp] theorem calm_ok {α : Type} (a : α) (st : Sto) : (Rz.ok a st).calm = .ok a st := (rfl)
/-! ### statements -/
@[simp] theorem thn_nx (env : List D) (st : Sto) (f : List D → Sto → Fl) : (Fl.nx env st).thn f = f env st := (rfl)
@[simp] theorem thn_rt (d : D) (st : Sto) (f : List D → Sto → Fl) : (Fl.rt d st).thn f = .rt d st := (rfl)
@[simp] theorem thn_bk (env : List D) (st : Sto) (f : List D → Sto → Fl) : (Fl.bk env st).thn f = .bk env st := (rfl)
@[simp] theorem thn_ct (env : List D) (st : Sto) (f : List D → Sto → Fl) : (Fl.ct env st).thn f = .ct env st := (rfl)
@[simp] theorem thn_er (c : Nat) (w : D) (env : List D) (st : Sto) (f : List D → Sto → Fl) : (Fl.er c w env st).thn f = .er c w env st := (rfl)
@[simp] theorem turn_nx (env : List D) (st : Sto) (f : List D → Sto → Fl) : (Fl.nx env st).turn f = f env st := (rfl)
@[simp] theorem turn_ct (env : List D) (st : Sto) (f : List D → Sto → Fl) : (Fl.ct env st).turn f = f env st := (rfl)
@[simp] theorem turn_bk (env : List D) (st : Sto) (f : List D → Sto → Fl) : (Fl.bk env st).turn f = .nx env st := (rfl)
@[simp] theorem turn_rt (d : D) (st : Sto) (f : List D → Sto → Fl) : (Fl.rt d st).turn f = .rt d st := (rfl)
@[simp] theorem turn_er (c : Nat) (w : D) (env : List D) (st : Sto) (f : List D → Sto → Fl) : (Fl.er c w env st).turn f = .er c w env st := (rfl)
/-- behind a store -/
def nxO (o : Option (List D)) (st : Sto) : Fl := match o with
  | some env => .nx env st
  | none => .no
@[simp] theorem nxO_some (env : List D) (st : Sto) : nxO (some env) st = .nx env st := (rfl)
def stO (env : List D) (o : Option Sto) : Fl := match o with
  | some st => .nx env st
  | none => .no
@[simp] theorem stO_some (env : List D) (st : Sto) : stO env (some st) = .nx env st := (rfl)
def iteS (k : Bool) (c : Cx) (sub : Nat → Nat → Bool) (a b : Ss) (env : List D) (st : Sto) : Fl := bif k then evSs c sub a env st else evSs c sub b env st
@[simp] theorem iteS_true (c : Cx) (sub : Nat → Nat → Bool) (a b : Ss) (env : List D) (st : Sto) : iteS true c sub a b env st = evSs c sub a env st := (rfl)
@[simp] theorem iteS_false (c : Cx) (sub : Nat → Nat → Bool) (a b : Ss) (env : List D) (st : Sto) : iteS false c sub a b env st = evSs c sub b env st := (rfl)
def forS (p : Pat) (tb : List D → Sto → Fl) (s : Src) (env : List D) (st : Sto) : Fl := match s with
  | .its ds => forI p tb ds env st
  | .cell n => forC p tb n many 0 env st
@[simp] theorem forS_its (p : Pat) (tb : List D → Sto → Fl) (ds : List D) (env : List D) (st : Sto) : forS p tb (.its ds) env st = forI p tb ds env st := (rfl)
@[simp] theorem forS_cell (p : Pat) (tb : List D → Sto → Fl) (n : Nat) (env : List D) (st : Sto) : forS p tb (.cell n) env st = forC p tb n many 0 env st := (rfl)
def raiS (b : Bool) (k : Nat) (w : D) (env : List D) (st : Sto) : Fl := bif b then .er k w env st else .no
@[simp] theorem raiS_true (k : Nat) (w : D) (env : List D) (st : Sto) : raiS true k w env st = .er k w env st := (rfl)
def whlB (b : Bool) (tc : List D → Sto → Rz Bool) (tb : List D → Sto → Fl) (k : Nat) (env : List D) (st : Sto) : Fl := bif b then (tb env st).turn (whl tc tb k) else .nx env st
@[simp] theorem whlB_true (tc : List D → Sto → Rz Bool) (tb : List D → Sto → Fl) (k : Nat) (env : List D) (st : Sto) : whlB true tc tb k env st = (tb env st).turn (whl tc tb k) := (rfl)
@[simp] theorem whlB_false (tc : List D → Sto → Rz Bool) (tb : List D → Sto → Fl) (k : Nat) (env : List D) (st : Sto) : whlB false tc tb k env st = .nx env st := (rfl)
inductive Kf : Type → Type 1 where
  | set (p : Pat) (env : List D) : Kf D
  | par (is : List Nat) (env : List D) : Kf (List D)
  | sts (c : Cx) (o i : E) (env : List D) : Kf D
  | sts2 (c : Cx) (i : E) (env : List D) (d : D) : Kf D
  | sts3 (c : Cx) (env : List D) (d x : D) : Kf D
  | aug (i : Nat) (op : Bop) (x : D) (env : List D) : Kf D
  | aug2 (i : Nat) (env : List D) : Kf D
  | ex (env : List D) : Kf D
  | ret : Kf D
  | ite (c : Cx) (sub : Nat → Nat → Bool) (a b : Ss) (env : List D) : Kf Bool
  | forK (p : Pat) (tb : List D → Sto → Fl) (env : List D) : Kf Src
  | rai (k : Nat) (env : List D) : Kf D
  | whl (tc : List D → Sto → Rz Bool) (tb : List D → Sto → Fl) (k : Nat) (env : List D) : Kf Bool
def Kf.run {α : Type} : Kf α → α → Sto → Fl
  | .set p env => fun d st => nxO (bindP p d env) st
  | .par is env => fun ds st => nxO (sets env is ds) st
  | .sts c o i env => fun d st => (evE c o env st).run env fun x st => (evE c i env st).run env fun y st => stO env (stsD c.n0 st x y d)
  | .sts2 c i env d => fun x st => (evE c i env st).run env fun y st => stO env (stsD c.n0 st x y d)
  | .sts3 c env d x => fun y st => stO env (stsD c.n0 st x y d)
  | .aug i op x env => fun y st => (binD st op x y).run env fun z st => .nx (env.set i z) st
  | .aug2 i env => fun z st => .nx (env.set i z) st
  | .ex env => fun _ st => .nx env st
  | .ret => fun d st => .rt d st
  | .ite c sub a b env => fun k st => iteS k c sub a b env st
  | .forK p tb env => fun s st => forS p tb s env st
  | .rai k env => fun w st => raiS w.pure k w env st
  | .whl tc tb k env => fun b st => whlB b tc tb k env st
def fk {α : Type} (x : Rz α) (env : List D) (k : Kf α) : Fl := x.run env k.run
@[simp] theorem fk_ok {α : Type} (a : α) (st : Sto) (env : List D) (k : Kf α) : fk (.ok a st) env k = k.run a st := (rfl)
@[simp] theorem fk_er {α : Type} (i : Nat) (w : D) (st : Sto) (env : List D) (k : Kf α) : fk (.er i w st) env k = .er i w env st := (rfl)
@[simp] theorem fk_no {α : Type} (env : List D) (k : Kf α) : fk .no env k = .no := (rfl)
section
variable (c : Cx) (sub : Nat → Nat → Bool) (env : List D) (st : Sto)
@[simp] theorem f_set (p : Pat) (d : D) : (Kf.set p env).run d st = nxO (bindP p d env) st := (rfl)
@[simp] theorem f_par (is : List Nat) (ds : List D) : (Kf.par is env).run ds st = nxO (sets env is ds) st := (rfl)
@[simp] theorem f_sts (o i : E) (d : D) : (Kf.sts c o i env).run d st = fk (evE c o env st) env (.sts2 c i env d) := (rfl)
@[simp] theorem f_sts2 (i : E) (d x : D) : (Kf.sts2 c i env d).run x st = fk (evE c i env st) env (.sts3 c env d x) := (rfl)
@[simp] theorem f_sts3 (d x y : D) : (Kf.sts3 c env d x).run y st = stO env (stsD c.n0 st x y d) := (rfl)
@[simp] theorem f_aug (i : Nat) (op : Bop) (x y : D) : (Kf.aug i op x env).run y st = fk (binD st op x y) env (.aug2 i env) := (rfl)
@[simp] theorem f_aug2 (i : Nat) (z : D) : (Kf.aug2 i env).run z st = .nx (env.set i z) st := (rfl)
@[simp] theorem f_ex (d : D) : (Kf.ex env).run d st = .nx env st := (rfl)
@[simp] theorem f_ret (d : D) : Kf.ret.run d st = .rt d st := (rfl)
@[simp] theorem f_ite (a b : Ss) (k : Bool) : (Kf.ite c sub a b env).run k st = iteS k c sub a b env st := (rfl)
@[simp] theorem f_for (p : Pat) (tb : List D → Sto → Fl) (s : Src) : (Kf.forK p tb env).run s st = forS p tb s env st := (rfl)
@[simp] theorem f_rai (k : Nat) (w : D) : (Kf.rai k env).run w st = raiS w.pure k w env st := (rfl)
@[simp] theorem f_whl (tc : List D → Sto → Rz Bool) (tb : List D → Sto → Fl) (k : Nat) (b : Bool) : (Kf.whl tc tb k env).run b st = whlB b tc tb k env st := (rfl)
theorem fk_fun {α : Type} {x : Rz α} {f : α → Sto → Fl} {k : Kf α} (h : ∀ a st, f a st = k.run a st) : x.run env f = fk x env k := by
  unfold fk
  rw [show f = k.run from funext fun a => funext fun st => h a st]
@[simp] theorem evS_set (p : Pat) (e : E) : evS c sub (.set p e) env st = fk (evE c e env st) env (.set p env) := by
  rw [evS]
  refine fk_fun _ fun d st => ?_
  rw [f_set]
  cases bindP p d env <;> rfl
@[simp] theorem evS_par (is : List Nat) (es : Es) : evS c sub (.par is es) env st = fk (evEs c es env st) env (.par is env) := by
  rw [evS]
  refine fk_fun _ fun ds st => ?_
  rw [f_par]
  cases sets env is ds <;> rfl
@[simp] theorem evS_sts (o i e : E) : evS c sub (.sts o i e) env st = fk (evE c e env st) env (.sts c o i env) := by
  rw [evS]
  refine fk_fun _ fun d st => ?_
  rw [f_sts]
  refine fk_fun _ fun x st => ?_
  rw [f_sts2]
  refine fk_fun _ fun y st => ?_
  rw [f_sts3]
  cases stsD c.n0 st x y d <;> rfl
def augS (o : Option D) (c : Cx) (i : Nat) (op : Bop) (e : E) (env : List D) (st : Sto) : Fl := match o with
  | some x => fk (evE c e env st) env (.aug i op x env)
  | none => .no
@[simp] theorem augS_some (x : D) (i : Nat) (op : Bop) (e : E) : augS (some x) c i op e env st = fk (evE c e env st) env (.aug i op x env) := (rfl)
@[simp] theorem evS_aug (i : Nat) (op : Bop) (e : E) : evS c sub (.aug i op e) env st = augS env[i]? c i op e env st := by
  rw [evS]
  cases env[i]? <;> rfl
@[simp] theorem evS_ex (e : E) : evS c sub (.ex e) env st = fk (evE c e env st) env (.ex env) := by
  rw [evS]
  rfl
@[simp] theorem evS_ret (e : E) : evS c sub (.ret e) env st = fk (evE c e env st) env .ret := by
  rw [evS]
  rfl
@[simp] theorem evS_retN : evS c sub .retN env st = .rt .non st := by rw [evS]
@[simp] theorem evS_ite (t : T) (a b : Ss) : evS c sub (.ite t a b) env st = fk (evT c t env st) env (.ite c sub a b env) := by
  rw [evS]
  rfl
@[simp] theorem evS_whl (t : T) (b : Ss) : evS c sub (.whl t b) env st = whl (evT c t) (evSs c sub b) many env st := by rw [evS]
@[simp] theorem evS_for (p : Pat) (it : I) (b : Ss) : evS c sub (.for p it b) env st = fk (evI c it env st) env (.forK p (evSs c sub b) env) := by
  rw [evS]
  rfl
@[simp] theorem evS_rai (k : Nat) (e : E) : evS c sub (.rai k e) env st = fk (evE c e env st) env (.rai k env) := by
  rw [evS]
  rfl
def tryF (sub : Nat → Nat → Bool) (hs : List (Nat × Hd)) (x : Fl) : Fl := match x with
  | .er k w env' st' => bif sub k k then (match caught sub k w hs with
    | some d => .rt d st'
    | none => .er k w env' st') else .no
  | r => r
@[simp] theorem tryF_nx (hs : List (Nat × Hd)) : tryF sub hs (.nx env st) = .nx env st := (rfl)
@[simp] theorem tryF_rt (hs : List (Nat × Hd)) (d : D) : tryF sub hs (.rt d st) = .rt d st := (rfl)
@[simp] theorem evS_try (b : Ss) (hs : List (Nat × Hd)) : evS c sub (.try b hs) env st = tryF sub hs (evSs c sub b env st) := by
  rw [evS]
  rfl
@[simp] theorem evS_brk : evS c sub .brk env st = .bk env st := by rw [evS]
@[simp] theorem evS_cnt : evS c sub .cnt env st = .ct env st := by rw [evS]
@[simp] theorem evS_pas : evS c sub .pas env st = .nx env st := by rw [evS]
@[simp] theorem evSs_nil : evSs c sub .nil env st = .nx env st := by rw [evSs]
@[simp] theorem evSs_cons (s : S) (r : Ss) : evSs c sub (.cons s r) env st = (evS c sub s env st).thn (evSs c sub r) := by rw [evSs]
theorem whl_succ (tc : List D → Sto → Rz Bool) (tb : List D → Sto → Fl) (k : Nat) : whl tc tb (k+1) env st = fk (tc env st) env (.whl tc tb k env) := by
  rw [whl]
  rfl
end
/-! ### data -/
section
variable (st : Sto)
@[simp] theorem bindP_name (i : Nat) (d : D) (env : List D) : bindP (.name i) d env = (if i < env.length then some (env.set i d) else none) := by
  rw [bindP]
  by_cases h : i < env.length <;> simp [h]
@[simp] theorem bindP_tup (ps : List Pat) (ds env : List D) : bindP (.tup ps) (.tup ds) env = bindPs ps ds env := by rw [bindP]
@[simp] theorem bindPs_nil (env : List D) : bindPs [] [] env = some env := by rw [bindPs]
@[simp] theorem bindPs_cons (p : Pat) (ps : List Pat) (d : D) (ds env : List D) : bindPs (p :: ps) (d :: ds) env = (bindP p d env).bind fun e => bindPs ps ds e := by
  rw [bindPs]
  cases bindP p d env <;> rfl
@[simp] theorem setsW_nil (env : List D) : sets env [] [] = some env := (rfl)
@[simp] theorem setsW_cons (env : List D) (i : Nat) (is : List Nat) (d : D) (ds : List D) : sets env (i :: is) (d :: ds) = (if i < env.length then sets (env.set i d) is ds else none) := by
  rw [sets]
  by_cases h : i < env.length <;> simp [h]
@[simp] theorem wipeD_nil (env : List D) : wipeD env [] = env := (rfl)
@[simp] theorem wipeD_cons (env : List D) (v : Nat) (vs : List Nat) : wipeD env (v :: vs) = (wipeD env vs).set v .no := (rfl)
@[simp] theorem truth_bl (b : Bool) : truth st (.bl b) = some b := (rfl)
@[simp] theorem truth_int (i : Int) : truth st (.int i) = some (i != 0) := (rfl)
@[simp] theorem truth_non : truth st .non = some false := (rfl)
@[simp] theorem truth_tup (ds : List D) : truth st (.tup ds) = some !ds.isEmpty := (rfl)
@[simp] theorem truth_lst (ds : List D) : truth st (.lst ds) = some !ds.isEmpty := (rfl)
@[simp] theorem truth_scr (ds : List D) : truth st (.scr ds) = some !ds.isEmpty := (rfl)
@[simp] theorem isNon_non : isNon .non = true := (rfl)
@[simp] theorem isNon_int (i : Int) : isNon (.int i) = false := (rfl)
@[simp] theorem isNon_bl (i : Bool) : isNon (.bl i) = false := (rfl)
@[simp] theorem isNon_str (i : Str) : isNon (.str i) = false := (rfl)
@[simp] theorem isNon_tup (i : List D) : isNon (.tup i) = false := (rfl)
@[simp] theorem isNon_lst (i : List D) : isNon (.lst i) = false := (rfl)
@[simp] theorem isNon_ref (i : Nat) : isNon (.ref i) = false := (rfl)
@[simp] theorem isNon_dic (i j : List D) : isNon (.dic i j) = false := (rfl)
@[simp] theorem items_tup (ds : List D) : items st (.tup ds) = some ds := (rfl)
@[simp] theorem items_lst (ds : List D) : items st (.lst ds) = some ds := (rfl)
@[simp] theorem items_scr (ds : List D) : items st (.scr ds) = some ds := (rfl)
theorem items_ref {n : Nat} {ds : List D} (h : st[n]? = some (.lst ds)) : items st (.ref n) = some ds := by
  show (match st[n]? with
    | some (.lst ds) => some ds
    | _ => none) = some ds
  rw [h]
@[simp] theorem litems_lst (ds : List D) : litems st (.lst ds) = some ds := (rfl)
theorem litems_ref {n : Nat} {ds : List D} (h : st[n]? = some (.lst ds)) : litems st (.ref n) = some ds := by
  show (match st[n]? with
    | some (.lst ds) => some ds
    | _ => none) = some ds
  rw [h]
@[simp] theorem sitL_lst (ds : List D) : sitL st (.lst ds) = some ds := (rfl)
@[simp] theorem sitL_scr (ds : List D) : sitL st (.scr ds) = some ds := (rfl)
theorem sitL_ref {n : Nat} {ds : List D} (h : st[n]? = some (.lst ds)) : sitL st (.ref n) = some ds := items_ref st h
/-! operators on ints -/
def intR (o : Option Int) (st : Sto) : Rz D := match o with
  | some z => .ok (.int z) st
  | none => .no
@[simp] theorem intR_some (z : Int) : intR (some z) st = .ok (.int z) st := (rfl)
@[simp] theorem bin_int (op : Bop) (i j : Int) : binD st op (.int i) (.int j) = intR (arith op i j) st := by
  unfold binD intR
  rfl
@[simp] theorem ar_add (i j : Int) : arith .add i j = some (i + j) := (rfl)
@[simp] theorem ar_sub (i j : Int) : arith .sub i j = some (i - j) := (rfl)
theorem ar_mul {i j : Int} (h : (small i || small j) = true) : arith .mul i j = some (i * j) := by
  unfold arith
  rw [h]
  rfl
theorem ar_mulL {i : Int} (j : Int) (h : small i = true) : arith .mul i j = some (i * j) := ar_mul (by rw [h]; rfl)
theorem ar_mulR (i : Int) {j : Int} (h : small j = true) : arith .mul i j = some (i * j) := ar_mul (by rw [h]; exact Bool.or_true _)
theorem ar_fdiv {i j : Int} (h : j ≠ 0) (h2 : j.natAbs < 1073741824) : arith .fdiv i j = some (i.fdiv j) := by
  unfold arith
  rw [show (!(j == 0) && decide (j.natAbs < 1073741824)) = true from by simp [h, h2]]
  rfl
theorem ar_mod {i j : Int} (h : j ≠ 0) : arith .mod i j = some (i.fmod j) := by
  unfold arith
  rw [show (!(j == 0)) = true from by simp [h]]
  rfl
@[simp] theorem cmp_lt (i j : Int) : cmpD st .lt (.int i) (.int j) = .ok (.bl (decide (i < j))) st := (rfl)
@[simp] theorem cmp_le (i j : Int) : cmpD st .le (.int i) (.int j) = .ok (.bl (decide (i ≤ j))) st := (rfl)
@[simp] theorem cmp_gt (i j : Int) : cmpD st .gt (.int i) (.int j) = .ok (.bl (decide (j < i))) st := (rfl)
@[simp] theorem cmp_ge (i j : Int) : cmpD st .ge (.int i) (.int j) = .ok (.bl (decide (j ≤ i))) st := (rfl)
@[simp] theorem cmp_eq (i j : Int) : cmpD st .eq (.int i) (.int j) = .ok (.bl (decide (i = j))) st := (rfl)
@[simp] theorem cmp_ne (i j : Int) : cmpD st .ne (.int i) (.int j) = .ok (.bl (!decide (i = j))) st := (rfl)
/-- an index in a sequence's items -/
def ixO (ds : Option (List D)) (k : Int) (st : Sto) : Rz D := match ds with
  | some ds => Rz.of (atI ds k) st
  | none => .no
@[simp] theorem ixO_some (ds : List D) (k : Int) : ixO (some ds) k st = Rz.of (atI ds k) st := (rfl)
@[simp] theorem ix_tup (ds : List D) (k : Int) : ixD st (.tup ds) (.int k) = Rz.of (atI ds k) st := by
  show (match atI ds k with
    | some d => Rz.ok d st
    | none => .no) = _
  cases atI ds k <;> rfl
@[simp] theorem ix_lst (ds : List D) (k : Int) : ixD st (.lst ds) (.int k) = Rz.of (atI ds k) st := ix_tup st ds k
@[simp] theorem ix_scr (ds : List D) (k : Int) : ixD st (.scr ds) (.int k) = Rz.of (atI ds k) st := ix_tup st ds k
theorem ix_ref {n : Nat} {ds : List D} (h : st[n]? = some (.lst ds)) (k : Int) : ixD st (.ref n) (.int k) = Rz.of (atI ds k) st := by
  unfold ixD
  dsimp only
  rw [items_ref st h]
  dsimp only
  cases atI ds k <;> rfl
/-! lists, tuples -/
theorem bin_mulLx (xs : List D) (k : Int) : binD st .mul (.lst xs) (.int k) = okIf (repOk xs.length k) (.lst (repD xs k)) st := by
  unfold binD
  simp only [litems]
  rfl
@[simp] theorem bin_mulL (xs : List D) (k : Int) : binD st .mul (.lst xs) (.int k) = okIf (repOk xs.length k) (.lst (repD xs k)) st := bin_mulLx st xs k
@[simp] theorem bin_addL (xs ys : List D) : binD st .add (.lst xs) (.lst ys) = okIf (fit (xs.length + ys.length)) (.lst (xs ++ ys)) st := by
  unfold binD
  simp only [litems]
  rfl
@[simp] theorem bin_addT (xs ys : List D) : binD st .add (.tup xs) (.tup ys) = okIf (fit (xs.length + ys.length)) (.tup (xs ++ ys)) st := by
  unfold binD
  rfl
@[simp] theorem bin_mulT (xs : List D) (k : Int) : binD st .mul (.tup xs) (.int k) = okIf (repOk xs.length k) (.tup (repD xs k)) st := by
  unfold binD
  rfl
theorem bin_addRL {n : Nat} {xs : List D} (h : st[n]? = some (.lst xs)) (ys : List D) : binD st .add (.ref n) (.lst ys) = okIf (fit (xs.length + ys.length)) (.lst (xs ++ ys)) st := by
  unfold binD
  simp only [litems, h]
  rfl
theorem bin_addLR {n : Nat} {ys : List D} (h : st[n]? = some (.lst ys)) (xs : List D) : binD st .add (.lst xs) (.ref n) = okIf (fit (xs.length + ys.length)) (.lst (xs ++ ys)) st := by
  unfold binD
  simp only [litems, h]
  rfl
@[simp] theorem bnd_no : bnd .no = some none := (rfl)
@[simp] theorem bnd_int (i : Int) : bnd (.int i) = some (some i) := (rfl)
@[simp] theorem sl_lst (ds : List D) (lo hi : Option Int) : slD st (.lst ds) lo hi = .ok (.lst (cutD ds lo hi)) st := (rfl)
@[simp] theorem sl_tup (ds : List D) (lo hi : Option Int) : slD st (.tup ds) lo hi = .ok (.tup (cutD ds lo hi)) st := (rfl)
theorem sl_ref {n : Nat} {ds : List D} (h : st[n]? = some (.lst ds)) (lo hi : Option Int) : slD st (.ref n) lo hi = .ok (.lst (cutD ds lo hi)) st := by
  unfold slD
  simp only [litems, h]
theorem cut_to {α : Type} (xs : List α) (k : Nat) : cutD xs none (some (k : Int)) = xs.take k := by
  unfold cutD
  rw [HT.sIx_none, HT.sIx_nat, List.drop_zero, Nat.sub_zero]
  rcases Nat.le_total k xs.length with h | h
  · rw [Nat.min_eq_left h]
  · rw [Nat.min_eq_right h, List.take_of_length_le h, List.take_of_length_le (Nat.le_refl _)]
theorem cut_from {α : Type} (xs : List α) (k : Nat) : cutD xs (some (k : Int)) none = xs.drop k := by
  unfold cutD
  rw [HT.sIx_none, HT.sIx_nat]
  rw [List.take_of_length_le (by simp)]
  rcases Nat.le_total k xs.length with h | h
  · rw [Nat.min_eq_left h]
  · rw [Nat.min_eq_right h, List.drop_of_length_le h, List.drop_of_length_le (Nat.le_refl _)]
theorem cut_mid {α : Type} (xs : List α) (a b : Nat) : cutD xs (some (a : Int)) (some (b : Int)) = (xs.drop a).take (b - a) := by
  unfold cutD
  rw [HT.sIx_nat, HT.sIx_nat]
  rcases Nat.le_total a xs.length with h | h
  · rw [Nat.min_eq_left h]
    rcases Nat.le_total b xs.length with h2 | h2
    · rw [Nat.min_eq_left h2]
    · rw [Nat.min_eq_right h2, List.take_of_length_le (by simp), List.take_of_length_le (by simp; omega)]
  · rw [Nat.min_eq_right h, List.drop_of_length_le h, List.drop_of_length_le (Nat.le_refl _)]
    simp
theorem repOk_nat {n k : Nat} (h : k ≤ 1000000) (h2 : n * k ≤ 16777216) : repOk n (k : Int) = true := by
  have : sizeLine = 16777216 := rfl
  unfold repOk fit
  simp only [Int.toNat_natCast, this, decide_eq_true h2, Bool.and_true, Bool.and_eq_true, decide_eq_true_eq]
  omega
/-! built-in functions -/
@[simp] theorem bi_int (i : Int) : biD st .int [.int i] = .ok (.int i) st := (rfl)
@[simp] theorem bi_intB (b : Bool) : biD st .int [.bl b] = .ok (.int (if b = true then 1 else 0)) st := (rfl)
@[simp] theorem bi_bool (b : Bool) : biD st .bool [.bl b] = .ok (.bl b) st := (rfl)
@[simp] theorem bi_boolI (i : Int) : biD st .bool [.int i] = .ok (.bl (i != 0)) st := (rfl)
@[simp] theorem bi_max2 (i j : Int) : biD st .max [.int i, .int j] = .ok (.int (if j > i then j else i)) st := (rfl)
@[simp] theorem bi_min2 (i j : Int) : biD st .min [.int i, .int j] = .ok (.int (if j < i then j else i)) st := (rfl)
@[simp] theorem bi_len (d : D) : biD st .len [d] = Rz.of ((lenD st d).map fun (n : Nat) => .int (n : Int)) st := (rfl)
@[simp] theorem bi_tuple (d : D) : biD st .tuple [d] = Rz.of ((items st d).map .tup) st := (rfl)
@[simp] theorem bi_list (d : D) : biD st .list [d] = Rz.of ((items st d).map .lst) st := (rfl)
@[simp] theorem bi_sum (d : D) : biD st .sum [d] = Rz.of (((sitL st d).bind intsD).map fun ns => .int ns.sum) st := (rfl)
@[simp] theorem bi_any (d : D) : biD st .any [d] = Rz.of (((sitL st d).bind boolsD).map fun bs => .bl (bs.any id)) st := (rfl)
@[simp] theorem bi_all (d : D) : biD st .all [d] = Rz.of (((sitL st d).bind boolsD).map fun bs => .bl (bs.all id)) st := (rfl)
@[simp] theorem bi_isa (d : D) (t : String) : biD st .isinstance [d, .ty t] = Rz.of ((isA st d t).map .bl) st := (rfl)
@[simp] theorem bi_absI (i : Int) : biD st .abs [.int i] = .ok (.int (if i < 0 then -i else i)) st := (rfl)
@[simp] theorem lenD_tup (ds : List D) : lenD st (.tup ds) = some ds.length := (rfl)
@[simp] theorem lenD_lst (ds : List D) : lenD st (.lst ds) = some ds.length := (rfl)
@[simp] theorem lenD_scr (ds : List D) : lenD st (.scr ds) = some ds.length := (rfl)
theorem lenD_ref {n : Nat} {ds : List D} (h : st[n]? = some (.lst ds)) : lenD st (.ref n) = some ds.length := by
  unfold lenD
  dsimp only
  rw [items_ref st h]
@[simp] theorem isA_int_int (i : Int) : isA st (.int i) "int" = some true := (rfl)
@[simp] theorem isA_int_bool (i : Int) : isA st (.int i) "bool" = some false := (rfl)
@[simp] theorem isA_int_str (i : Int) : isA st (.int i) "str" = some false := (rfl)
@[simp] theorem isA_int_tuple (i : Int) : isA st (.int i) "tuple" = some false := (rfl)
@[simp] theorem isA_int_list (i : Int) : isA st (.int i) "list" = some false := (rfl)
@[simp] theorem isA_int_dict (i : Int) : isA st (.int i) "dict" = some false := (rfl)
@[simp] theorem isA_bl_int (i : Bool) : isA st (.bl i) "int" = some true := (rfl)
@[simp] theorem isA_bl_bool (i : Bool) : isA st (.bl i) "bool" = some true := (rfl)
@[simp] theorem isA_bl_str (i : Bool) : isA st (.bl i) "str" = some false := (rfl)
@[simp] theorem isA_bl_tuple (i : Bool) : isA st (.bl i) "tuple" = some false := (rfl)
@[simp] theorem isA_bl_list (i : Bool) : isA st (.bl i) "list" = some false := (rfl)
@[simp] theorem isA_bl_dict (i : Bool) : isA st (.bl i) "dict" = some false := (rfl)
@[simp] theorem isA_str_int (i : Str) : isA st (.str i) "int" = some false := (rfl)
@[simp] theorem isA_str_bool (i : Str) : isA st (.str i) "bool" = some false := (rfl)
@[simp] theorem isA_str_str (i : Str) : isA st (.str i) "str" = some true := (rfl)
@[simp] theorem isA_str_tuple (i : Str) : isA st (.str i) "tuple" = some false := (rfl)
@[simp] theorem isA_str_list (i : Str) : isA st (.str i) "list" = some false := (rfl)
@[simp] theorem isA_str_dict (i : Str) : isA st (.str i) "dict" = some false := (rfl)
@[simp] theorem isA_tup_int (i : List D) : isA st (.tup i) "int" = some false := (rfl)
@[simp] theorem isA_tup_bool (i : List D) : isA st (.tup i) "bool" = some false := (rfl)
@[simp] theorem isA_tup_str (i : List D) : isA st (.tup i) "str" = some false := (rfl)
@[simp] theorem isA_tup_tuple (i : List D) : isA st (.tup i) "tuple" = some true := (rfl)
@[simp] theorem isA_tup_list (i : List D) : isA st (.tup i) "list" = some false := (rfl)
@[simp] theorem isA_tup_dict (i : List D) : isA st (.tup i) "dict" = some false := (rfl)
@[simp] theorem isA_lst_int (i : List D) : isA st (.lst i) "int" = some false := (rfl)
@[simp] theorem isA_lst_bool (i : List D) : isA st (.lst i) "bool" = some false := (rfl)
@[simp] theorem isA_lst_str (i : List D) : isA st (.lst i) "str" = some false := (rfl)
@[simp] theorem isA_lst_tuple (i : List D) : isA st (.lst i) "tuple" = some false := (rfl)
@[simp] theorem isA_lst_list (i : List D) : isA st (.lst i) "list" = some true := (rfl)
@[simp] theorem isA_lst_dict (i : List D) : isA st (.lst i) "dict" = some false := (rfl)
@[simp] theorem isA_non_int : isA st .non "int" = some false := (rfl)
@[simp] theorem isA_non_bool : isA st .non "bool" = some false := (rfl)
@[simp] theorem isA_non_str : isA st .non "str" = some false := (rfl)
@[simp] theorem isA_non_tuple : isA st .non "tuple" = some false := (rfl)
@[simp] theorem isA_non_list : isA st .non "list" = some false := (rfl)
@[simp] theorem isA_non_dict : isA st .non "dict" = some false := (rfl)
@[simp] theorem isA_scr_int (i : List D) : isA st (.scr i) "int" = some false := (rfl)
@[simp] theorem isA_scr_bool (i : List D) : isA st (.scr i) "bool" = some false := (rfl)
@[simp] theorem isA_scr_str (i : List D) : isA st (.scr i) "str" = some false := (rfl)
@[simp] theorem isA_scr_tuple (i : List D) : isA st (.scr i) "tuple" = some false := (rfl)
@[simp] theorem isA_scr_list (i : List D) : isA st (.scr i) "list" = some true := (rfl)
@[simp] theorem isA_scr_dict (i : List D) : isA st (.scr i) "dict" = some false := (rfl)
@[simp] theorem isNon_scr (i : List D) : isNon (.scr i) = false := (rfl)
/-! methods, stores -/
@[simp] theorem rec_bits (i : Int) : recv st .bit_length (.int i) = true := (rfl)
theorem rec_app {n : Nat} {ds : List D} (h : st[n]? = some (.lst ds)) : recv st .append (.ref n) = true := by
  unfold recv
  rw [sitL_ref st h]
  rfl
theorem rec_ext {n : Nat} {ds : List D} (h : st[n]? = some (.lst ds)) : recv st .extend (.ref n) = true := rec_app st h
theorem rec_pop {n : Nat} {ds : List D} (h : st[n]? = some (.lst ds)) : recv st .pop (.ref n) = true := rec_app st h
@[simp] theorem meW_bits (n0 : Nat) (i : Int) : meD n0 st .bit_length (.int i) [] = .ok (.int (Builtin.Int.intBits i : Nat)) st := (rfl)
theorem me_app {n0 n : Nat} {ds : List D} {d : D} (h : st[n]? = some (.lst ds)) (hm : may n0 n d = true) (hl : ds.length < sizeLine) : meD n0 st .append (.ref n) [d] = .ok .non (st.set n (.lst (ds ++ [d]))) := by
  simp only [meD, h, hm, hl]
  rfl
theorem me_ext {n0 n : Nat} {ds es : List D} {d : D} (h : st[n]? = some (.lst ds)) (hd : litems st d = some es) (hm : (Nat.ble n0 n || pures es) = true) (hl : fit (ds.length + es.length) = true) : meD n0 st .extend (.ref n) [d] = .ok .non (st.set n (.lst (ds ++ es))) := by
  simp only [meD, h, hd, hm, hl]
  rfl
theorem meW_pop {n0 n : Nat} {ds : List D} {d : D} (h : st[n]? = some (.lst (ds ++ [d]))) : meD n0 st .pop (.ref n) [] = .ok d (st.set n (.lst ds)) := by
  simp only [meD, h, List.getLast?_append, List.getLast?_singleton, List.dropLast_concat]
  rfl
def stsL (st : Sto) (n : Nat) (ds : List D) (d : D) : Option Nat → Bool → Option Sto
  | some j, true => some (st.set n (.lst (ds.set j d)))
  | _, _ => none
@[simp] theorem stsL_some (n : Nat) (ds : List D) (d : D) (j : Nat) : stsL st n ds d (some j) true = some (st.set n (.lst (ds.set j d))) := (rfl)
theorem sts_ref {n0 n : Nat} {ds : List D} {k : Int} {d : D} (h : st[n]? = some (.lst ds)) : stsD n0 st (.ref n) (.int k) d = stsL st n ds d (ixN ds.length k) (may n0 n d) := by
  simp only [stsD, h]
  cases ixN ds.length k with
  | none => rfl
  | some j => cases may n0 n d <;> rfl
/-! a call's end -/
theorem fin_pure {d : D} (n0 : Nat) (own : Bool) (h : d.pure = true) : fin n0 own d st = .ok d (st.take n0) := by
  unfold fin
  rw [h]
  rfl
end
end Ev

end
section
set_option linter.all false
set_option maxRecDepth 100000
set_option autoImplicit false
/-! S0: the program run; the laws' draws. -/
namespace Ev
open PySem L2
abbrev cx (n n0 : Nat) : Cx := ⟨n0, fun f => go prog n (.fn f), fun i cap => go prog n (.lam i cap), prog.glo⟩
def done (own : Bool) (n0 : Nat) : Fl → Rz D
  | .rt v st' => fin n0 own v st'
  | .nx _ st' => .ok .non (st'.take n0)
  | .er k w _ st' => bif w.pure then .er k w (st'.take n0) else .no
  | _ => .no
@[simp] theorem done_rt (own : Bool) (n0 : Nat) (v : D) (st' : Sto) : done own n0 (.rt v st') = fin n0 own v st' := (rfl)
@[simp] theorem done_nx (own : Bool) (n0 : Nat) (env : List D) (st' : Sto) : done own n0 (.nx env st') = .ok .non (st'.take n0) := (rfl)
@[simp] theorem done_er (own : Bool) (n0 : Nat) (k : Nat) (w : D) (env : List D) (st' : Sto) : done own n0 (.er k w env st') = pick w.pure (fun _ => .er k w (st'.take n0)) fun _ => .no := cond_pick _ _ _
theorem go_fn {n f : Nat} {d : Def} {as : List D} {st : Sto} (h : prog.defs f = some d) (hl : d.ps = as.length) : go prog (n+1) (.fn f) as st = done d.own st.length (evSs (cx n st.length) prog.sub d.body (as ++ List.replicate (d.n - as.length) .no) st) := by
  rw [go, h]
  dsimp only
  rw [show (d.ps == as.length) = true from by rw [hl]; exact beq_self_eq_true _]
  rfl
/-! ### more rules -/
theorem atI_nat {α : Type} (xs : List α) (k : Nat) : atI xs (k : Int) = xs[k]? := by
  unfold atI ixN
  by_cases h : k < xs.length
  · simp [h]
  · simp [h]
@[simp] theorem atI_lit {α : Type} (xs : List α) (k : Nat) : atI xs (OfNat.ofNat (k+2) : Int) = xs[k+2]? := atI_nat xs (k+2)
@[simp] theorem atI_0 {α : Type} (xs : List α) : atI xs 0 = xs[0]? := atI_nat xs 0
@[simp] theorem atI_1 {α : Type} (xs : List α) : atI xs 1 = xs[1]? := atI_nat xs 1
theorem small_of {i : Int} (h : -18446744073709551616 < i) (h2 : i < 18446744073709551616) : small i = true := by simp [small, h, h2]
@[simp] theorem fit_0 : fit 0 = true := (rfl)
@[simp] theorem fit_1 : fit 1 = true := (rfl)
theorem fit_of {n : Nat} (h : n ≤ 16777216) : fit n = true := by
  have : sizeLine = 16777216 := rfl
  simp [fit, this, h]
@[simp] theorem pure_int (i : Int) : (D.int i).pure = true := by rw [D.pure]
@[simp] theorem pure_bl (i : Bool) : (D.bl i).pure = true := by rw [D.pure]
@[simp] theorem pure_str (i : Str) : (D.str i).pure = true := by rw [D.pure]
@[simp] theorem pure_non : D.non.pure = true := by rw [D.pure]
@[simp] theorem pure_tup (ds : List D) : (D.tup ds).pure = pures ds := by rw [D.pure]
@[simp] theorem pure_lst (ds : List D) : (D.lst ds).pure = pures ds := by rw [D.pure]
@[simp] theorem pure_scr (ds : List D) : (D.scr ds).pure = pures ds := by rw [D.pure]
@[simp] theorem pures_nil : pures [] = true := by rw [pures]
@[simp] theorem pures_cons (d : D) (ds : List D) : pures (d :: ds) = (d.pure && pures ds) := by rw [pures]
theorem pures_ints : ∀ ns : List Int, pures (ns.map D.int) = true
  | [] => pures_nil
  | n :: r => by rw [List.map_cons, pures_cons, pures_ints r]; rfl
@[simp] theorem may_pure (n0 n : Nat) {d : D} (h : d.pure = true) : may n0 n d = true := by simp [may, h]
@[simp] theorem take_set_len {α : Type} (st : List α) (k : Nat) (c : α) : (st.set k c).take st.length = st.set k c := List.take_of_length_le (by simp)
/-! ### the laws' draws -/
def jar (ab : Int × Int) : Cell := .lst [.int ab.1, .int ab.2]
def JarOk (ab : Int × Int) : Prop := 0 ≤ ab.2 ∧ ab.2 < 2147483647
def takeF (ab : Int × Int) (t : Int) : Int × (Int × Int) := if 0 < ab.1 then (ab.1.fmod t, (ab.1.fdiv t, ab.2)) else let b := (ab.2 * 39373 + 7).fmod 2147483647; ((((b * b).fmod 2147483629).fdiv 32).fmod t, (ab.1, b))
theorem fmod_lt {a b : Int} (h : 0 < b) : 0 ≤ a.fmod b ∧ a.fmod b < b := ⟨Int.fmod_nonneg_of_pos a h, Int.fmod_lt_of_pos a h⟩
theorem take_eq (n : Nat) {st : Sto} {k : Nat} {ab : Int × Int} {t : Int} (hk : st[k]? = some (jar ab)) (hj : JarOk ab) (ht : 0 < t) (h2 : t < 1073741824) : go prog (n+1) (.fn 13) [.ref k, .int t] st = .ok (.int (takeF ab t).1) (st.set k (jar (takeF ab t).2)) := by
  obtain ⟨a, b⟩ := ab
  have hk' : st[k]? = some (.lst [.int a, .int b]) := hk
  have hkl : k < st.length := by
    rcases Nat.lt_or_ge k st.length with h | h
    · exact h
    · rw [List.getElem?_eq_none h] at hk
      cases hk
  have h0 : t ≠ 0 := by omega
  have h3 : t.natAbs < 1073741824 := by omega
  have h4 := hj.1
  have h5 := hj.2
  have hb := fmod_lt (a := b * 39373 + 7) (b := 2147483647) (by decide)
  rw [go_fn (d := F13) rfl rfl]
  by_cases ha : 0 < a
  · simp [F13, ix_ref, hk', ha, h0, ar_mod, ar_fdiv, h3, sts_ref, ixN, fin_pure, takeF, jar]
  · have s2 : small ((b * 39373 + 7).fmod 2147483647) = true := small_of (by omega) (by omega)
    have g1 : (st.set k (.lst [.int a, .int ((b * 39373 + 7).fmod 2147483647)]))[k]? = some (.lst [.int a, .int ((b * 39373 + 7).fmod 2147483647)]) := by simp [hkl]
    simp [F13, ix_ref, hk', ha, h0, ar_mod, ar_fdiv, h3, sts_ref, ixN, fin_pure, takeF, jar, ar_mulL, ar_mulR, s2, g1, show small 39373 = true from rfl]
theorem take_jar {ab : Int × Int} {t : Int} (h : JarOk ab) : JarOk (takeF ab t).2 := by
  unfold takeF
  split
  · exact h
  · exact fmod_lt (by decide)
theorem take_lt {ab : Int × Int} {t : Int} (h : 0 < t) : 0 ≤ (takeF ab t).1 ∧ (takeF ab t).1 < t := by
  unfold takeF
  split
  · exact fmod_lt h
  · exact fmod_lt h
def JarAt (st : Sto) (k : Nat) : Prop := ∃ ab, st[k]? = some (jar ab) ∧ JarOk ab
theorem take_ok (n : Nat) {st : Sto} {k : Nat} {t : Int} (hk : JarAt st k) (ht : 0 < t) (h2 : t < 1073741824) : ∃ (d : Int) (ab : Int × Int), go prog (n+1) (.fn 13) [.ref k, .int t] st = .ok (.int d) (st.set k (jar ab)) ∧ 0 ≤ d ∧ d < t ∧ JarOk ab := by
  obtain ⟨ab, h, hj⟩ := hk
  exact ⟨_, _, take_eq n h hj ht h2, (take_lt ht).1, (take_lt ht).2, take_jar hj⟩
theorem jarAt_set {st : Sto} {k : Nat} {ab : Int × Int} (h : JarAt st k) (hj : JarOk ab) : JarAt (st.set k (jar ab)) k := by
  obtain ⟨ab0, h, _⟩ := h
  have hkl : k < st.length := by
    rcases Nat.lt_or_ge k st.length with z | z
    · exact z
    · rw [List.getElem?_eq_none z] at h
      cases h
  exact ⟨ab, by simp [hkl], hj⟩
theorem jarAt_app {st : Sto} {k : Nat} (h : JarAt st k) (l : Sto) : JarAt (st ++ l) k := by
  obtain ⟨ab, h, hj⟩ := h
  have hkl : k < st.length := by
    rcases Nat.lt_or_ge k st.length with z | z
    · exact z
    · rw [List.getElem?_eq_none z] at h
      cases h
  exact ⟨ab, by rw [List.getElem?_append_left hkl]; exact h, hj⟩
theorem JarAt.lt {st : Sto} {k : Nat} (h : JarAt st k) : k < st.length := by
  obtain ⟨ab, h, hj⟩ := h
  rcases Nat.lt_or_ge k st.length with z | z
  · exact z
  · rw [List.getElem?_eq_none z] at h
    cases h
/-! ### ends of calls -/
theorem rdY_pure {n0 : Nat} {st : Sto} {k : Nat} {d : D} (h : d.pure = true) : rdY n0 st k d = some d := by
  cases k <;> simp [rdY, h]
theorem mapO_rdY {n0 : Nat} {st : Sto} {k : Nat} : ∀ {ds : List D}, pures ds = true → mapO (rdY n0 st k) ds = some ds
  | [], _ => rfl
  | d :: r, h => by
    rw [pures_cons] at h
    obtain ⟨h1, h2⟩ := Bool.and_eq_true_iff.mp h
    unfold mapO
    rw [rdY_pure h1, mapO_rdY h2]
theorem fin_own {n0 m : Nat} {st : Sto} {ds : List D} (h : st[m]? = some (.lst ds)) (hm : n0 ≤ m) (hp : pures ds = true) : fin n0 true (.ref m) st = .ok (.ref n0) (st.take n0 ++ [.lst ds]) := by
  unfold fin
  have e : Nat.ble n0 m = true := Nat.ble_eq_true_of_le hm
  simp [D.pure, e, h, mapO_rdY hp]
theorem fin_lst {n0 m : Nat} {st : Sto} {ds : List D} (h : st[m]? = some (.lst ds)) (hm : n0 ≤ m) (hp : pures ds = true) : fin n0 false (.ref m) st = .ok (.lst ds) (st.take n0) := by
  unfold fin
  have e : Nat.ble n0 m = true := Nat.ble_eq_true_of_le hm
  simp [D.pure, e, h, mapO_rdY hp]
theorem fl_ints {k : Nat} : ∀ ns : List Int, (ns.map D.int).all (fl k) = true
  | [] => rfl
  | n :: r => by
    rw [List.map_cons, List.all_cons, fl_ints r]
    cases k <;> simp [fl]
theorem rd_pure {st : Sto} {k : Nat} {d : D} (h : d.pure = true) : rd st k d = some d := by
  cases k <;> simp [rd, h]
theorem ne_nil (st : Sto) (ns : List Int) : cmpD st .ne (.scr (ns.map .int)) (.lst []) = .ok (.bl (!ns.isEmpty)) st := by
  have h1 : rd st deep (.scr (ns.map .int)) = some (.scr (ns.map .int)) := rd_pure (by rw [pure_scr, pures_ints])
  have h2 : rd st deep (.lst []) = some (.lst []) := rd_pure (by simp)
  have h3 : fl deep (.scr (ns.map .int)) = true := by
    show (ns.map D.int).all (fl 11) = true
    exact fl_ints ns
  have h4 : fl deep (.lst []) = true := rfl
  have h5 : eqv (.scr (ns.map .int)) (.lst []) = ns.isEmpty := by
    cases ns <;> rfl
  unfold cmpD
  simp only [h1, h2, h3, h4, dcmp, h5]
  rfl
theorem isum (b : Bool) : small (if b = true then 1 else 0) = true := by cases b <;> rfl
theorem pool_ok (n : Nat) {st : Sto} {ns : List Int} {k : Nat} (hk : k < 1000) : ∃ ab, JarOk ab ∧ go prog (n+1) (.fn 12) [.scr (ns.map .int), .int k] st = .ok (.ref st.length) (st ++ [jar ab]) := by
  rw [go_fn (d := F12) rfl rfl]
  have s1 : small (k : Int) = true := small_of (by omega) (by omega)
  have f2 : fit 2 = true := rfl
  have key : ∀ c : Int, ∃ ab, JarOk ab ∧ done true st.length (evSs (cx n st.length) prog.sub
     (.cons (.set (.name 3) (.bi .max (.cons (.bi .int (.cons (.var 2) .nil)) (.cons (.bi .int (.cons (.bin .sub (.neg (.con (.int 1))) (.var 2)) .nil)) .nil))))
  (.cons (.set (.name 4) (.bin .mod (.bi .int (.cons (.bin .mul (.bin .add (.bin .add (.bin .add (.bin .mod (.bi .int (.cons (.var 3) .nil)) (.con (.int 2147483629))) (.bin .mul (.bin .mul (.con (.int 7919)) (.var 1)) (.var 1))) (.bin .mul (.con (.int 31)) (.var 1))) (.con (.int 17))) (.con (.int 48271))) .nil)) (.con (.int 2147483647))))
  (.cons (.ret (.new (.dis (.cons (.bin .mul (.var 3) (.bi .int (.cons (.and (.cmp .ge (.var 3) (.bin .pow (.con (.int 10)) (.con (.int 18)))) (.cmp .lt (.var 1) (.bi .len (.cons (.var 0) .nil)))) .nil))) (.cons (.var 4) .nil)))))
  .nil))) [.scr (ns.map .int), .int k, .int c, .no, .no] st) = .ok (.ref st.length) (st ++ [jar ab]) := by
    intro c
    have a1 : arith .pow 10 18 = some (10^18) := rfl
    have e1 : ∀ (x y : Int), done true st.length (.rt (.ref st.length) (st ++ [.lst [.int x, .int y]])) = .ok (.ref st.length) (st ++ [jar (x, y)]) := fun x y => by
      rw [done_rt, fin_own (m := st.length) (ds := [.int x, .int y]) (by simp) (Nat.le_refl _) (by simp)]
      simp [jar]
    have key2 : ∀ m : Int, JarOk (m, ((((if -1 - c > c then -1 - c else c).fmod 2147483629 + 7919 * (k : Int) * k + 31 * k + 17) * 48271).fmod 2147483647)) := fun m => fmod_lt (by decide)
    by_cases h1 : (1000000000000000000 : Int) ≤ (if -1 - c > c then -1 - c else c)
    · by_cases h2 : k < ns.length
      · refine ⟨((if -1 - c > c then -1 - c else c) * 1, _), key2 _, ?_⟩
        simp [h1, h2, isum, ar_mulR, ar_mulL, f2, ar_mod, s1, show small 7919 = true from rfl, show small 31 = true from rfl, show small 48271 = true from rfl, a1, show small 1 = true from rfl, e1]
      · refine ⟨((if -1 - c > c then -1 - c else c) * 0, _), key2 _, ?_⟩
        simp [h1, h2, isum, ar_mulR, ar_mulL, f2, ar_mod, s1, show small 7919 = true from rfl, show small 31 = true from rfl, show small 48271 = true from rfl, a1, show small 0 = true from rfl, e1]
    · refine ⟨((if -1 - c > c then -1 - c else c) * 0, _), key2 _, ?_⟩
      simp [h1, isum, ar_mulR, ar_mulL, f2, ar_mod, s1, show small 7919 = true from rfl, show small 31 = true from rfl, show small 48271 = true from rfl, a1, show small 0 = true from rfl, e1]
  have gi : ∀ (j : Nat), ((ns.map D.int)[j]? : Option D) = (ns[j]?).map D.int := fun j => by simp
  by_cases h : k < ns.length
  · obtain ⟨ab, hj, e⟩ := key ns[k]
    refine ⟨ab, hj, ?_⟩
    rw [← e]
    have : atI (ns.map D.int) (k : Int) = some (.int ns[k]) := by rw [atI_nat, gi, List.getElem?_eq_getElem h]; rfl
    simp [F12, h, this]
  · cases ns with
    | nil =>
      obtain ⟨ab, hj, e⟩ := key 0
      refine ⟨ab, hj, ?_⟩
      rw [← e]
      have := ne_nil st []
      simp at this
      have q : ¬ ((k : Int) < 0) := by omega
      simp [F12, this, q]
    | cons m r =>
      obtain ⟨ab, hj, e⟩ := key m
      refine ⟨ab, hj, ?_⟩
      rw [← e]
      have := ne_nil st (m :: r)
      simp at this h
      have q : ¬ ((k : Int) < (r.length : Int) + 1) := by omega
      simp [F12, this, q]
theorem one_ok (n : Nat) {st : Sto} {k : Nat} {o : D} {ds : List D} (hk : JarAt st k) (hm : o.pure = true) (hi : items st o = some ds) (hi2 : ∀ st', items st' o = some ds) (hl : lenD st o = some ds.length) (h0 : ds ≠ []) (h1 : ds.length < 1073741824) (hp : pures ds = true)
    (hx : ∀ st i, ixD st o (.int i) = Rz.of (atI ds i) st) : ∃ (d : D) (ab : Int × Int), go prog (n+2) (.fn 14) [.ref k, o] st = .ok d (st.set k (jar ab)) ∧ d ∈ ds ∧ JarOk ab := by
  have hlen : 0 < ds.length := List.length_pos_iff.mpr h0
  obtain ⟨d, ab, e, d0, d1, hj⟩ := take_ok n hk (t := (ds.length : Int)) (by omega) (by omega)
  obtain ⟨m, rfl⟩ := Int.eq_ofNat_of_zero_le d0
  have hm2 : m < ds.length := by omega
  refine ⟨ds[m], ab, ?_, List.getElem_mem _, hj⟩
  rw [go_fn (d := F14) rfl rfl]
  have pd : (ds[m]).pure = true := pures_iff.mp hp _ (List.getElem_mem _)
  simp [F14, vr_pure hm, hl, e, hx, atI_nat, List.getElem?_eq_getElem hm2, fin_pure, pd]
end Ev

end
section
set_option linter.all false
set_option maxRecDepth 100000
set_option autoImplicit false
/-! S1: _law_same. -/
namespace Ev
open PySem L2
/-! ### loops -/
@[simp] theorem compI_nil (p : Pat) (env : List D) (tc : List D → Sto → Rz Bool) (te : List D → Sto → Rz D) (st : Sto) : compI p env tc te [] st = .ok [] st := (rfl)
/-- behind a store in a comprehension -/
def bndO {α : Type} (o : Option (List D)) (f : List D → Rz α) : Rz α := match o with
  | some e => f e
  | none => .no
@[simp] theorem bndO_some {α : Type} (e : List D) (f : List D → Rz α) : bndO (some e) f = f e := (rfl)
theorem compI_cons (p : Pat) (env : List D) (tc : List D → Sto → Rz Bool) (te : List D → Sto → Rz D) (d : D) (r : List D) (st : Sto) : compI p env tc te (d :: r) st = bndO (bindP p d env) fun env' => (tc env' st).bind fun b st0 => pick b (fun _ => (te env' st0).bind fun y st1 => (compI p env tc te r st1).bind fun ys st2 => .ok (y :: ys) st2) (fun _ => compI p env tc te r st0) := by
  rw [compI]
  unfold bndO
  cases bindP p d env with
  | none => rfl
  | some e => simp only [cond_pick]
/-- a comprehension that changes nothing -/
theorem compI_map {p : Pat} {env : List D} {tc : List D → Sto → Rz Bool} {te : List D → Sto → Rz D} {st : Sto} (g : D → Bool) (f : D → D) : ∀ {ds : List D}, (∀ d ∈ ds, ∃ env', bindP p d env = some env' ∧ tc env' st = .ok (g d) st ∧ (g d = true → te env' st = .ok (f d) st)) → compI p env tc te ds st = .ok ((ds.filter g).map f) st
  | [], _ => rfl
  | d :: r, h => by
    obtain ⟨env', h1, h2, h3⟩ := h d (List.mem_cons_self)
    have ih := compI_map (ds := r) g f fun x hx => h x (List.mem_cons_of_mem _ hx)
    rw [compI_cons, h1]
    simp only [bndO_some, h2, rbind_ok]
    cases q : g d with
    | true => simp [h3 q, ih, q]
    | false => simp [ih, q]
theorem compI_all {p : Pat} {env : List D} {te : List D → Sto → Rz D} {st : Sto} (f : D → D) {ds : List D} (h : ∀ d ∈ ds, ∃ env', bindP p d env = some env' ∧ te env' st = .ok (f d) st) : compI p env (fun _ st => .ok true st) te ds st = .ok (ds.map f) st := by
  have := compI_map (p := p) (env := env) (tc := fun _ st => .ok true st) (te := te) (st := st) (fun _ => true) f (ds := ds) fun d hd => by
    obtain ⟨e, h1, h2⟩ := h d hd
    exact ⟨e, h1, rfl, fun _ => h2⟩
  rw [this, List.filter_eq_self.mpr fun _ _ => rfl]
/-- the same by terms -/
theorem compE_all {c : Cx} {e : E} {p : Pat} {env : List D} {st : Sto} (f : D → D) {ds : List D} (h : ∀ d ∈ ds, ∃ env', bindP p d env = some env' ∧ evE c e env' st = .ok (f d) st) : compE c e p env (.its ds) st = .ok (ds.map f) st :=
  compI_all f fun d hd => by
    obtain ⟨e', h1, h2⟩ := h d hd
    exact ⟨e', h1, by rw [h2]; rfl⟩
theorem compTE_map {c : Cx} {t : T} {e : E} {p : Pat} {env : List D} {st : Sto} (g : D → Bool) (f : D → D) {ds : List D} (h : ∀ d ∈ ds, ∃ env', bindP p d env = some env' ∧ evT c t env' st = .ok (g d) st ∧ (g d = true → evE c e env' st = .ok (f d) st)) : compTE c t e p env (.its ds) st = .ok ((ds.filter g).map f) st :=
  compI_map g f fun d hd => by
    obtain ⟨e', h1, h2, h3⟩ := h d hd
    exact ⟨e', h1, by rw [h2]; rfl, fun q => by rw [h3 q]; rfl⟩
/-! ### stores in two parts -/
@[simp] theorem app_get {α : Type} (st : List α) (l : List α) (j : Nat) : (st ++ l)[st.length + j]? = l[j]? := by
  rw [List.getElem?_append_right (by omega)]
  congr 1
  omega
@[simp] theorem app_get0 {α : Type} (st : List α) (l : List α) : (st ++ l)[st.length]? = l[0]? := app_get st l 0
@[simp] theorem app_set {α : Type} (st : List α) (l : List α) (j : Nat) (c : α) : (st ++ l).set (st.length + j) c = st ++ l.set j c := by
  rw [List.set_append_right _ _ (by omega)]
  congr 2
  omega
@[simp] theorem app_set0 {α : Type} (st : List α) (l : List α) (c : α) : (st ++ l).set st.length c = st ++ l.set 0 c := app_set st l 0 c
@[simp] theorem app_take {α : Type} (st : List α) (l : List α) : (st ++ l).take st.length = st := by simp
@[simp] theorem may_own (n0 j : Nat) (d : D) : may n0 (n0 + j) d = true := by simp [may]
@[simp] theorem may_own0 (n0 : Nat) (d : D) : may n0 n0 d = true := by simp [may]
/-! ### what is the same as itself -/
mutual
def sz : D → Nat
  | .tup ds => 1 + szs ds
  | .lst ds => 1 + szs ds
  | .scr ds => 1 + szs ds
  | _ => 1
def szs : List D → Nat
  | [] => 0
  | d :: r => sz d + szs r
end
theorem sz_pos (d : D) : 0 < sz d := by cases d <;> simp [sz] <;> omega
theorem szs_app (a b : List D) : szs (a ++ b) = szs a + szs b := by
  induction a with
  | nil => simp [szs]
  | cons d r ih => simp [szs, ih]; omega
theorem szs_len : ∀ ds : List D, ds.length ≤ szs ds
  | [] => by simp
  | d :: r => by
    have := szs_len r
    have := sz_pos d
    simp [szs]
    omega
theorem fl_pure : ∀ (k : Nat) (d : D), fl k d = true → d.pure = true
  | k, .non, _ => pure_non
  | k, .bl _, _ => pure_bl _
  | k, .int _, _ => pure_int _
  | k, .str _, _ => pure_str _
  | k + 1, .tup ds, h => by
    rw [pure_tup]
    exact pures_iff.mpr fun d hd => fl_pure k d (List.all_eq_true.mp (by simpa [fl] using h) d hd)
  | k + 1, .lst ds, h => by
    rw [pure_lst]
    exact pures_iff.mpr fun d hd => fl_pure k d (List.all_eq_true.mp (by simpa [fl] using h) d hd)
  | k + 1, .scr ds, h => by
    rw [pure_scr]
    exact pures_iff.mpr fun d hd => fl_pure k d (List.all_eq_true.mp (by simpa [fl] using h) d hd)
  | 0, .tup _, h => by simp [fl] at h
  | 0, .lst _, h => by simp [fl] at h
  | 0, .scr _, h => by simp [fl] at h
  | k, .no, h => by cases k <;> simp [fl] at h
  | k, .set _, h => by cases k <;> simp [fl] at h
  | k, .dic _ _, h => by cases k <;> simp [fl] at h
  | k, .ref _, h => by cases k <;> simp [fl] at h
  | k, .lam _ _, h => by cases k <;> simp [fl] at h
  | k, .fn _, h => by cases k <;> simp [fl] at h
  | k, .ty _, h => by cases k <;> simp [fl] at h
theorem fl_mono : ∀ (k : Nat) (d : D), fl k d = true → fl (k+1) d = true
  | k, .non, _ => by cases k <;> rfl
  | k, .bl _, _ => by cases k <;> rfl
  | k, .int _, _ => by cases k <;> rfl
  | k, .str _, _ => by cases k <;> rfl
  | k + 1, .tup ds, h => by
    have h2 : ds.all (fl k) = true := h
    show ds.all (fl (k+1)) = true
    exact List.all_eq_true.mpr fun d hd => fl_mono k d (List.all_eq_true.mp h2 d hd)
  | k + 1, .lst ds, h => by
    have h2 : ds.all (fl k) = true := h
    show ds.all (fl (k+1)) = true
    exact List.all_eq_true.mpr fun d hd => fl_mono k d (List.all_eq_true.mp h2 d hd)
  | k + 1, .scr ds, h => by
    have h2 : ds.all (fl k) = true := h
    show ds.all (fl (k+1)) = true
    exact List.all_eq_true.mpr fun d hd => fl_mono k d (List.all_eq_true.mp h2 d hd)
  | 0, .tup _, h => by simp [fl] at h
  | 0, .lst _, h => by simp [fl] at h
  | 0, .scr _, h => by simp [fl] at h
  | k, .no, h => by cases k <;> simp [fl] at h
  | k, .set _, h => by cases k <;> simp [fl] at h
  | k, .dic _ _, h => by cases k <;> simp [fl] at h
  | k, .ref _, h => by cases k <;> simp [fl] at h
  | k, .lam _ _, h => by cases k <;> simp [fl] at h
  | k, .fn _, h => by cases k <;> simp [fl] at h
  | k, .ty _, h => by cases k <;> simp [fl] at h
theorem fl_le {k m : Nat} (h : k ≤ m) {d : D} (hd : fl k d = true) : fl m d = true := by
  induction h with
  | refl => exact hd
  | step _ ih => exact fl_mono _ _ ih
theorem eqv_ints_refl (d : D) (h : (match d with | .non => true | .bl _ => true | .int _ => true | .str _ => true | _ => false) = true) : eqv d d = true := by
  cases d <;> first | (simp at h; done) | simp [eqv, pd, PyData.eqv]
/-- a number, text, truth, None is equal to itself -/
theorem cmp_eq_refl {st : Sto} {d : D} (h : (match d with | .non => true | .bl _ => true | .int _ => true | .str _ => true | _ => false) = true) : cmpD st .eq d d = .ok (.bl true) st := by
  have h1 : rd st deep d = some d := rd_pure (by cases d <;> first | (simp at h; done) | simp)
  have h2 : fl deep d = true := by cases d <;> first | (simp at h; done) | rfl
  have h3 := eqv_ints_refl d h
  cases d <;> first | (simp at h; done) | (unfold cmpD; simp only [h1, h2, dcmp, h3]; first | rfl | simp [icmp])
end Ev

end
section
set_option linter.all false
set_option maxRecDepth 100000
set_option autoImplicit false
/-! S2: _law_same, _law_is_whole. -/
namespace Ev
open PySem L2
/-! parts of terms -/
def Ss.at : Ss → Nat → S
  | .cons s _, 0 => s
  | .cons _ r, n + 1 => r.at n
  | .nil, _ => .pas
def S.wT : S → T
  | .whl t _ => t
  | _ => .of (.con .no)
def S.wB : S → Ss
  | .whl _ b => b
  | .for _ _ b => b
  | _ => .nil
/-! ### comparisons with the empty list -/
theorem mapO_rd {st : Sto} {k : Nat} : ∀ {ds : List D}, pures ds = true → mapO (rd st k) ds = some ds
  | [], _ => rfl
  | d :: r, h => by
    rw [pures_cons] at h
    obtain ⟨h1, h2⟩ := Bool.and_eq_true_iff.mp h
    unfold mapO
    rw [rd_pure h1, mapO_rd h2]
theorem eqv_nil (ds : List D) : eqv (.lst ds) (.lst []) = ds.isEmpty := by
  cases ds <;> simp [eqv, pd, pds, PyData.eqv, PyData.eqvAll]
theorem cmp_ne_ref {st : Sto} {n : Nat} {ds : List D} (h : st[n]? = some (.lst ds)) (hf : ds.all (fl 11) = true) : cmpD st .ne (.ref n) (.lst []) = .ok (.bl (!ds.isEmpty)) st := by
  have hp : pures ds = true := pures_iff.mpr fun d hd => fl_pure _ d (List.all_eq_true.mp hf d hd)
  have h1 : rd st deep (.ref n) = some (.lst ds) := by
    unfold deep
    rw [rd]
    simp [D.pure, h, mapO_rd hp]
  have h2 : rd st deep (.lst []) = some (.lst []) := rd_pure (by simp)
  have h3 : fl deep (.lst ds) = true := hf
  have h4 : fl deep (.lst []) = true := rfl
  unfold cmpD
  simp only [h1, h2, h3, h4, dcmp, eqv_nil]
  rfl
@[simp] theorem cmp_ne_lst {st : Sto} {ds : List D} (hf : ds.all (fl 11) = true) : cmpD st .ne (.lst ds) (.lst []) = .ok (.bl (!ds.isEmpty)) st := by
  have hp : pures ds = true := pures_iff.mpr fun d hd => fl_pure _ d (List.all_eq_true.mp hf d hd)
  have h1 : rd st deep (.lst ds) = some (.lst ds) := rd_pure (by simp [hp])
  have h2 : rd st deep (.lst []) = some (.lst []) := rd_pure (by simp)
  have h3 : fl deep (.lst ds) = true := hf
  have h4 : fl deep (.lst []) = true := rfl
  unfold cmpD
  simp only [h1, h2, h3, h4, dcmp, eqv_nil]
  rfl
/-! ### ranges -/
theorem rng1 {m : Nat} (h : m ≤ 16777216) : rngD [.int (m : Int)] = some ((List.range m).map fun i => .int (i : Nat)) := by
  have h1 : in62 (m : Int) = true := by simp [in62]; omega
  unfold rngD
  simp [h1, fit_of h]
theorem whole_ok (n : Nat) (st : Sto) (i : Int) : go prog (n+1) (.fn 15) [.int i] st = .ok (.bl true) st := by
  rw [go_fn (d := F15) rfl rfl]
  simp [F15, fin_pure]
/-! ### _law_same -/
def pr (d : D) : D := .tup [d, d]
@[simp] theorem bindP_pr (a b : Pat) (d : D) (env : List D) : bindP (.tup [a, b]) (pr d) env = bindPs [a, b] [d, d] env := bindP_tup _ _ _
abbrev sameW : S := F16.body.at 1
theorem pairs_fl {ds : List D} (h : ∀ d ∈ ds, fl 9 d = true) : (ds.map pr).all (fl 11) = true := by
  apply List.all_eq_true.mpr
  intro x hx
  obtain ⟨d, hd, rfl⟩ := List.mem_map.mp hx
  show ([d, d] : List D).all (fl 10) = true
  simp [fl_le (by omega : 9 ≤ 10) (h d hd)]
theorem pairs_pure {ds : List D} (h : ∀ d ∈ ds, fl 9 d = true) : pures (ds.map pr) = true := pures_iff.mpr fun d hd => fl_pure _ d (List.all_eq_true.mp (pairs_fl h) d hd)
/-- the suite behind the pop, at a datum that is equal to itself; what comes in is told -/
def kids : D → List D
  | .tup ds => ds
  | .lst ds => ds
  | .scr ds => ds
  | _ => []
theorem kids_sz (d : D) : 1 + szs (kids d) = sz d := by cases d <;> simp [kids, sz, szs]
theorem kids_fl {k : Nat} {d : D} (h : fl k d = true) : ∀ e ∈ kids d, fl k e = true := by
  intro e he
  cases k with
  | zero => cases d <;> simp [fl, kids] at h he
  | succ k =>
    cases d <;> simp [kids] at he
    · exact fl_mono _ _ (List.all_eq_true.mp (show (_ : List D).all (fl k) = true from h) e he)
    · exact fl_mono _ _ (List.all_eq_true.mp (show (_ : List D).all (fl k) = true from h) e he)
    · exact fl_mono _ _ (List.all_eq_true.mp (show (_ : List D).all (fl k) = true from h) e he)
theorem comp_pairs {c : Cx} {st : Sto} {h o r d : D} {b : Bool} {es : List D} (hl : es.length ≤ 16777216) (hd : ∀ i, ixD st d (.int i) = Rz.of (atI es i) st) (hv : Rz.vr (some d) st = .ok d st) :
    compE c (.tup (.cons (.ix (.var 3) (.var 6)) (.cons (.ix (.var 4) (.var 6)) .nil))) (.name 6) [h, o, r, d, d, .bl b, .no] (.its ((List.range es.length).map fun i => .int (i : Nat))) st = .ok (es.map pr) st := by
  have f2 : fit 2 = true := rfl
  rw [compE_all fun d => match d with
    | .int i => pr ((es[i.toNat]?).getD .no)
    | _ => .no]
  · congr 1
    apply List.ext_getElem
    · simp
    · intro i h1 h2
      simp at h1 h2
      simp [h2]
  · intro x hx
    obtain ⟨i, hi, rfl⟩ := List.mem_map.mp hx
    have hi2 : i < es.length := List.mem_range.mp hi
    refine ⟨_, by simp; rfl, ?_⟩
    simp [hv, hd, atI_nat, List.getElem?_eq_getElem hi2, f2, pr]
theorem ix_kids {st : Sto} {d : D} {es : List D} (h : items st d = some es) (h2 : ∀ z, d ≠ .str z) (i : Int) : ixD st d (.int i) = Rz.of (atI es i) st := by
  unfold ixD
  cases d <;> first | (exact absurd rfl (h2 _)) | (dsimp only; rw [h]; dsimp only; cases atI es i <;> rfl)
theorem same_step (n : Nat) (st : Sto) (h o x y z w d : D) (r : List D) (hf : fl 9 d = true) (hl : szs r + sz d ≤ 1000000) :
    evSs (cx (n+1) st.length) prog.sub sameW.wB [h, o, .ref st.length, x, y, z, w] (st ++ [.lst (r.map pr ++ [pr d])]) = .nx [h, o, .ref st.length, d, d, .bl true, w] (st ++ [.lst ((r ++ kids d).map pr)]) := by
  have hr := szs_len r
  have hk := szs_len (kids d)
  have hks := kids_sz d
  have e1 := meW_pop (st ++ [Cell.lst (r.map pr ++ [pr d])]) (n0 := st.length) (n := st.length) (ds := r.map pr) (d := pr d) (by simp)
  have e2 := rec_pop (st ++ [Cell.lst (r.map pr ++ [pr d])]) (n := st.length) (ds := r.map pr ++ [pr d]) (by simp)
  have hd := cmp_eq_refl (st := st ++ [.lst (r.map pr)]) (d := d)
  have e3 := rec_ext (st ++ [Cell.lst (r.map pr)]) (n := st.length) (ds := r.map pr) (by simp)
  have e4 := fun es (q : litems (st ++ [Cell.lst (r.map pr)]) (.lst es) = some es) (q2 : fit ((r.map pr).length + es.length) = true) => me_ext (st ++ [Cell.lst (r.map pr)]) (n0 := st.length) (n := st.length) (ds := r.map pr) (es := es) (d := .lst es) (by simp) q (by simp) q2
  have whole := fun i => whole_ok n (st ++ [Cell.lst (r.map pr)]) i
  have com := fun (es : List D) (q1 : es.length ≤ 16777216) (q : ∀ i, ixD (st ++ [Cell.lst (r.map pr)]) d (.int i) = Rz.of (atI es i) (st ++ [Cell.lst (r.map pr)])) (hv : Rz.vr (some d) (st ++ [Cell.lst (r.map pr)]) = .ok d (st ++ [Cell.lst (r.map pr)])) => comp_pairs (c := cx (n+1) st.length) (h := h) (o := o) (r := .ref st.length) (b := true) q1 q hv
  have seq : ∀ es : List D, kids d = es → (∀ i, ixD (st ++ [Cell.lst (r.map pr)]) d (.int i) = Rz.of (atI es i) (st ++ [Cell.lst (r.map pr)])) → Rz.vr (some d) (st ++ [Cell.lst (r.map pr)]) = .ok d (st ++ [Cell.lst (r.map pr)]) → True := fun _ _ _ _ => trivial
  cases d with
  | non => simp [sameW, F16, Ss.at, S.wB, e1, e2, kids]
  | bl b =>
    have hd := hd rfl
    simp [sameW, F16, Ss.at, S.wB, e1, e2, kids, hd]
  | int i =>
    have hd := hd rfl
    simp [sameW, F16, Ss.at, S.wB, e1, e2, kids, hd, whole]
  | str i =>
    have hd := hd rfl
    simp [sameW, F16, Ss.at, S.wB, e1, e2, kids, hd]
  | tup es =>
    simp [kids] at hk hks
    have c0 := com es (by omega) (ix_kids (by simp) (by simp)) (by simp)
    have f0 := e4 (es.map pr) (by simp) (fit_of (by simp; omega))
    have r0 := rng1 (m := es.length) (by omega)
    simp [sameW, F16, Ss.at, S.wB, e1, e2, e3, kids, r0]
    rw [c0]
    simp [f0]
  | lst es =>
    simp [kids] at hk hks
    have c0 := com es (by omega) (ix_kids (by simp) (by simp)) (by simp)
    have f0 := e4 (es.map pr) (by simp) (fit_of (by simp; omega))
    have r0 := rng1 (m := es.length) (by omega)
    simp [sameW, F16, Ss.at, S.wB, e1, e2, e3, kids, r0]
    rw [c0]
    simp [f0]
  | scr es =>
    simp [kids] at hk hks
    have c0 := com es (by omega) (ix_kids (by simp) (by simp)) (by simp)
    have f0 := e4 (es.map pr) (by simp) (fit_of (by simp; omega))
    have r0 := rng1 (m := es.length) (by omega)
    simp [sameW, F16, Ss.at, S.wB, e1, e2, e3, kids, r0]
    rw [c0]
    simp [f0]
  | _ => simp [fl] at hf
theorem same_loop (n : Nat) (st : Sto) (h o : D) : ∀ (m : Nat) (ds : List D) (x y z w : D), (∀ d ∈ ds, fl 9 d = true) → szs ds < m → szs ds ≤ 1000000 →
    ∃ x' y' z' w', whl (evT (cx (n+1) st.length) sameW.wT) (evSs (cx (n+1) st.length) prog.sub sameW.wB) m [h, o, .ref st.length, x, y, z, w] (st ++ [.lst (ds.map pr)]) = .nx [h, o, .ref st.length, x', y', z', w'] (st ++ [.lst []])
  | 0, ds, x, y, z, w, _, hm, _ => by omega
  | m + 1, ds, x, y, z, w, hf, hm, hs => by
    have e0 := cmp_ne_ref (st := st ++ [.lst (ds.map pr)]) (n := st.length) (ds := ds.map pr) (by simp) (pairs_fl hf)
    rw [whl_succ]
    rcases List.eq_nil_or_concat ds with rfl | ⟨r, d, rfl⟩
    · simp at e0
      simp [sameW, F16, Ss.at, S.wT, S.wB, e0]
    · simp only [List.concat_eq_append] at *
      simp at e0
      have hsz : szs (r ++ kids d) + 1 = szs (r ++ [d]) := by
        have := kids_sz d
        simp [szs_app, szs] at *
        omega
      have st1 := same_step n st h o x y z w d r (hf d (by simp)) (by simp [szs_app, szs] at hs; omega)
      obtain ⟨x', y', z', w', ih⟩ := same_loop n st h o m (r ++ kids d) d d (.bl true) w (fun e he => by
        rcases List.mem_append.mp he with he | he
        · exact hf e (by simp [he])
        · exact kids_fl (hf d (by simp)) e he) (by omega) (by omega)
      refine ⟨x', y', z', w', ?_⟩
      rw [show evT (cx (n+1) st.length) sameW.wT [h, o, .ref st.length, x, y, z, w] (st ++ [.lst ((r ++ [d]).map pr)]) = .ok true (st ++ [.lst ((r ++ [d]).map pr)]) from by simp [sameW, F16, Ss.at, S.wT, e0]]
      simp only [fk_ok, f_whl, whlB_true, List.map_append, List.map_cons, List.map_nil]
      rw [st1, turn_nx]
      exact ih
end Ev

end
section
set_option linter.all false
set_option maxRecDepth 100000
set_option autoImplicit false
/-! S3: _law_same. -/
namespace Ev
open PySem L2
theorem rd_refI {st : Sto} {k n : Nat} {ds ds' : List D} (h : st[n]? = some (.lst ds)) (h2 : mapO (rd st k) ds = some ds') : rd st (k+1) (.ref n) = some (.lst ds') := by
  rw [rd]
  simp only [D.pure, h, h2]
  rfl
theorem rd_tupI {st : Sto} {k : Nat} {ds ds' : List D} (h2 : mapO (rd st k) ds = some ds') : rd st (k+1) (.tup ds) = some (.tup ds') := by
  rw [rd]
  cases hp : pures ds with
  | true =>
    rw [mapO_rd hp] at h2
    cases h2
    simp [hp]
  | false =>
    simp only [pure_tup, hp, h2]
    rfl
theorem rd_lstI {st : Sto} {k : Nat} {ds ds' : List D} (h2 : mapO (rd st k) ds = some ds') : rd st (k+1) (.lst ds) = some (.lst ds') := by
  rw [rd]
  cases hp : pures ds with
  | true =>
    rw [mapO_rd hp] at h2
    cases h2
    simp [hp]
  | false =>
    simp only [pure_lst, hp, h2]
    rfl
theorem mapO_one {f : D → Option D} {d e : D} (h : f d = some e) : mapO f [d] = some [e] := by simp [mapO, h]
theorem mapO_two {f : D → Option D} {d e d' e' : D} (h : f d = some e) (h2 : f d' = some e') : mapO f [d, d'] = some [e, e'] := by simp [mapO, h, h2]
theorem same_ok (n : Nat) (st : Sto) {d : D} (hf : fl 9 d = true) (hs : sz d ≤ 900000) : go prog (n+2) (.fn 16) [d, d] st = .ok (.bl true) st := by
  have hv := vr_pure (fl_pure _ _ hf)
  obtain ⟨x, y, z, w, e⟩ := same_loop n st d d many [d] .no .no .no .no (by simpa using hf) (by simp [szs, many]; omega) (by simp [szs]; omega)
  rw [go_fn (d := F16) rfl rfl]
  simp only [sameW, S.wT, S.wB, F16, Ss.at, pr, List.map_cons, List.map_nil] at e
  have f2 : fit 2 = true := rfl
  simp only [F16, evSs_cons, evS_set, evE_new, evL_dis, evEs_cons, evE_tup, evE_var, hv]
  simp [hv, f2, e, fin_pure]
/-- a list in the store against its items -/
theorem same_ref (n : Nat) (st : Sto) {k : Nat} {ds : List D} (hk : st[k]? = some (.lst ds)) (hf : ds.all (fl 8) = true) (hs : szs ds ≤ 900000) : go prog (n+2) (.fn 16) [.ref k, .lst ds] st = .ok (.bl true) st := by
  have hkl : k < st.length := by
    rcases Nat.lt_or_ge k st.length with h | h
    · exact h
    · rw [List.getElem?_eq_none h] at hk
      cases hk
  have hk2 : ∀ l : Sto, (st ++ l)[k]? = some (.lst ds) := fun l => by rw [List.getElem?_append_left hkl]; exact hk
  have hlen := szs_len ds
  have hff : ∀ d ∈ ds, fl 9 d = true := fun d hd => fl_mono _ _ (List.all_eq_true.mp hf d hd)
  have hp : pures ds = true := pures_iff.mpr fun d hd => fl_pure _ d (List.all_eq_true.mp hf d hd)
  obtain ⟨x, y, z, w, e⟩ := same_loop n st (.ref k) (.lst ds) 999999 ds (.ref k) (.lst ds) (.bl true) .no hff (by omega) (by omega)
  have c0 := comp_pairs (c := cx (n+1) st.length) (st := st ++ [Cell.lst []]) (h := .ref k) (o := .lst ds) (r := .ref st.length) (d := .lst ds) (b := true) (es := ds) (by omega) (ix_kids (by simp) (by simp)) (by simp)
  have c1 : compE (cx (n+1) st.length) (.tup (.cons (.ix (.var 3) (.var 6)) (.cons (.ix (.var 4) (.var 6)) .nil))) (.name 6) [.ref k, .lst ds, .ref st.length, .ref k, .lst ds, .bl true, .no] (.its ((List.range ds.length).map fun i => .int (i : Nat))) (st ++ [Cell.lst []]) = .ok (ds.map pr) (st ++ [Cell.lst []]) := by
    have f2 : fit 2 = true := rfl
    rw [compE_all fun d => match d with
      | .int i => pr ((ds[i.toNat]?).getD .no)
      | _ => .no]
    · congr 1
      apply List.ext_getElem
      · simp
      · intro i h1 h2
        simp at h1 h2
        simp [h2]
    · intro x hx
      obtain ⟨i, hi, rfl⟩ := List.mem_map.mp hx
      have hi2 : i < ds.length := List.mem_range.mp hi
      refine ⟨_, by simp; rfl, ?_⟩
      simp [ix_ref _ (hk2 _), atI_nat, List.getElem?_eq_getElem hi2, f2, pr]
  have t0 : cmpD (st ++ [Cell.lst [.tup [.ref k, .lst ds]]]) .ne (.ref st.length) (.lst []) = .ok (.bl true) (st ++ [Cell.lst [.tup [.ref k, .lst ds]]]) := by
    have h1 : rd (st ++ [Cell.lst [.tup [.ref k, .lst ds]]]) deep (.ref st.length) = some (.lst [.tup [.lst ds, .lst ds]]) := by
      exact rd_refI (ds := [.tup [.ref k, .lst ds]]) (by simp) (mapO_one (rd_tupI (mapO_two (rd_refI (hk2 _) (mapO_rd hp)) (rd_pure (by simp [hp])))))
    have h2 : rd (st ++ [Cell.lst [.tup [.ref k, .lst ds]]]) deep (.lst []) = some (.lst []) := rd_pure (by simp)
    have h3 : fl deep (.lst [.tup [.lst ds, .lst ds]]) = true := by
      show (([.tup [.lst ds, .lst ds]] : List D).all (fl 11)) = true
      have : fl 10 (.lst ds) = true := by
        show ds.all (fl 9) = true
        exact List.all_eq_true.mpr hff
      simp [fl] at this ⊢
      exact this
    have h4 : fl deep (.lst []) = true := rfl
    unfold cmpD
    simp only [h1, h2, h3, h4, dcmp, eqv_nil]
    rfl
  have f2 : fit 2 = true := rfl
  have r0 := rng1 (m := ds.length) (by omega)
  have e1 := meW_pop (st ++ [Cell.lst [.tup [.ref k, .lst ds]]]) (n0 := st.length) (n := st.length) (ds := []) (d := .tup [.ref k, .lst ds]) (by simp)
  have e2 := rec_pop (st ++ [Cell.lst [.tup [.ref k, .lst ds]]]) (n := st.length) (ds := [.tup [.ref k, .lst ds]]) (by simp)
  have e3 := rec_ext (st ++ [Cell.lst []]) (n := st.length) (ds := []) (by simp)
  have e4 := me_ext (st ++ [Cell.lst []]) (n0 := st.length) (n := st.length) (ds := []) (es := ds.map pr) (d := .lst (ds.map pr)) (by simp) (by simp) (by simp) (fit_of (by simp; omega))
  have k1 : isA (st ++ [Cell.lst []]) (.ref k) "list" = some true := by
    unfold isA kindD
    simp only [hk2]
    rfl
  have l1 := lenD_ref (st ++ [Cell.lst []]) (hk2 _)
  rw [go_fn (d := F16) rfl rfl]
  simp only [sameW, S.wT, S.wB, F16, Ss.at] at e
  simp only [F16, evSs_cons, evS_set, evE_new, evL_dis, evEs_cons, evE_tup, evE_var]
  simp [f2]
  rw [show many = 999999 + 1 from rfl, whl_succ]
  simp [t0, e1, e2, k1, l1, r0, e3]
  rw [c1]
  simp [e4, e, fin_pure]
end Ev

end
section
set_option linter.all false
set_option maxRecDepth 100000
set_option autoImplicit false
/-! S4: binary digits, loud units. -/
namespace Ev
open PySem L2
theorem fmod_nat (a b : Nat) : Int.fmod (a : Int) (b : Int) = ((a % b : Nat) : Int) := by
  rw [Int.fmod_eq_emod_of_nonneg _ (by omega)]
  exact (Int.natCast_emod a b).symm
theorem fdiv_nat (a b : Nat) : Int.fdiv (a : Int) (b : Int) = ((a / b : Nat) : Int) := by
  rw [Int.fdiv_eq_ediv_of_nonneg _ (by omega)]
  exact (Int.natCast_ediv a b).symm
@[simp] theorem fmod_nat2 (a : Nat) : Int.fmod (a : Int) 2 = ((a % 2 : Nat) : Int) := fmod_nat a 2
@[simp] theorem fdiv_nat2 (a : Nat) : Int.fdiv (a : Int) 2 = ((a / 2 : Nat) : Int) := fdiv_nat a 2
/-! ### for -/
@[simp] theorem forI_nil (p : Pat) (tb : List D → Sto → Fl) (env : List D) (st : Sto) : forI p tb [] env st = .nx env st := (rfl)
def forB (o : Option (List D)) (f : List D → Fl) : Fl := match o with
  | some e => f e
  | none => .no
@[simp] theorem forB_some (e : List D) (f : List D → Fl) : forB (some e) f = f e := (rfl)
theorem forI_cons (p : Pat) (tb : List D → Sto → Fl) (d : D) (r env : List D) (st : Sto) : forI p tb (d :: r) env st = forB (bindP p d env) fun env' => (tb env' st).turn (forI p tb r) := by
  rw [forI]
  cases bindP p d env <;> rfl
theorem forI_inv {p : Pat} {tb : List D → Sto → Fl} (I : Nat → List D → Sto → Prop) : ∀ (ds : List D) (k : Nat) (env : List D) (st : Sto), I k env st →
    (∀ (i : Nat) (d : D) (env : List D) (st : Sto), ds[i]? = some d → I (k + i) env st → ∃ env1 env2 st2, bindP p d env = some env1 ∧ tb env1 st = .nx env2 st2 ∧ I (k + i + 1) env2 st2) →
    ∃ env' st', forI p tb ds env st = .nx env' st' ∧ I (k + ds.length) env' st'
  | [], k, env, st, h, _ => ⟨env, st, rfl, h⟩
  | d :: r, k, env, st, h, hs => by
    obtain ⟨e1, e2, s2, h1, h2, h3⟩ := hs 0 d env st rfl h
    obtain ⟨e', s', h4, h5⟩ := forI_inv I r (k+1) e2 s2 h3 fun i d env st hd hi => by
      obtain ⟨a, b, c, q1, q2, q3⟩ := hs (i+1) d env st hd (by rw [show k + (i+1) = k + 1 + i from by omega]; exact hi)
      exact ⟨a, b, c, q1, q2, by rw [show k + 1 + i + 1 = k + (i + 1) + 1 from by omega]; exact q3⟩
    refine ⟨e', s', ?_, by rw [List.length_cons, show k + (r.length + 1) = k + 1 + r.length from by omega]; exact h5⟩
    rw [forI_cons, h1, forB_some, h2, turn_nx, h4]
/-! ### digits -/
/-- the lowest first; none of 0 -/
def bl (n : Nat) : List Nat := if h : n = 0 then [] else n % 2 :: bl (n / 2)
termination_by n
theorem bl_0 : bl 0 = [] := by
  rw [bl]
  simp
theorem bl_pos {n : Nat} (h : n ≠ 0) : bl n = n % 2 :: bl (n / 2) := by
  rw [bl]
  simp [h]
theorem bl_len (n : Nat) : (bl n).length = if n = 0 then 0 else n.log2 + 1 := by
  induction n using Nat.strongRecOn with
  | _ n ih =>
    by_cases h : n = 0
    · subst h
      rw [bl_0]
      rfl
    · rw [bl_pos h, List.length_cons, ih (n/2) (by omega), if_neg h]
      by_cases h2 : n / 2 = 0
      · have : n = 1 := by omega
        subst this
        rfl
      · rw [if_neg h2, Nat.log2_def n, if_pos (by omega)]
/-- k digits -/
def dg : Nat → Nat → List Nat
  | 0, _ => []
  | k + 1, r => r % 2 :: dg k (r / 2)
theorem dg_0 : ∀ k, dg k 0 = List.replicate k 0
  | 0 => rfl
  | k + 1 => by simp [dg, dg_0 k, List.replicate_succ]
/-- digits with noughts behind, cut -/
theorem bl_dg : ∀ (k r : Nat), ((bl r) ++ List.replicate k 0).take k = dg k r
  | 0, r => by simp [dg]
  | k + 1, r => by
    by_cases h : r = 0
    · subst h
      rw [bl_0, dg_0]
      simp
    · rw [bl_pos h, dg, ← bl_dg k (r / 2), List.cons_append, List.take_succ_cons, List.replicate_succ']
      congr 1
      rw [← List.append_assoc, List.take_append_of_le_length (by simp)]
theorem dg_len : ∀ (k r : Nat), (dg k r).length = k
  | 0, _ => rfl
  | k + 1, r => by simp [dg, dg_len k]
theorem bits_eq (m : Nat) : (Builtin.Int.intBits (m : Int) : Nat) = (bl m).length := by
  rw [bl_len]
  unfold Builtin.Int.intBits
  by_cases h : m = 0
  · subst h
    rfl
  · rw [if_neg (by simpa using h), if_neg h]
    rfl
def nD (n : Nat) : D := .int n
abbrev bitsW : S := F18.body.at 1
theorem bits_loop (n : Nat) (st : Sto) : ∀ (m r : Nat) (ds : List D), r < 2 ^ m → ds.length + m ≤ 10000000 → pures ds = true →
    whl (evT (cx n st.length) bitsW.wT) (evSs (cx n st.length) prog.sub bitsW.wB) (m + 1) [.int r, .ref st.length] (st ++ [.lst ds]) = .nx [.int 0, .ref st.length] (st ++ [.lst (ds ++ (bl r).map nD)])
  | m, r, ds, hr, hl, hp => by
    rw [whl_succ]
    by_cases h : r = 0
    · subst h
      simp [bitsW, F18, Ss.at, S.wT, bl_0]
    · have e1 := rec_app (st ++ [Cell.lst ds]) (n := st.length) (ds := ds) (by simp)
      have e2 := fun d => me_app (st ++ [Cell.lst ds]) (n0 := st.length) (n := st.length) (ds := ds) (d := d) (by simp) (by simp) (by have : sizeLine = 16777216 := rfl; omega)
      cases m with
      | zero => omega
      | succ m =>
        have ih := bits_loop n st m (r / 2) (ds ++ [.int ((r % 2 : Nat) : Int)]) (by omega) (by simp; omega) (by
          rw [pures_iff] at hp ⊢
          intro d hd
          rcases List.mem_append.mp hd with hd | hd
          · exact hp d hd
          · simp at hd
            subst hd
            exact pure_int _)
        simp only [bitsW, F18, Ss.at, S.wT, S.wB] at ih
        have h1 : 0 < r := by omega
        rw [show ((r / 2 : Nat) : Int) = (r : Int) / 2 from by omega, show ((r % 2 : Nat) : Int) = (r : Int) % 2 from by omega] at ih
        simp [bitsW, F18, Ss.at, S.wT, S.wB, e1, e2, h1, ar_mod, ar_fdiv, h]
        rw [ih, bl_pos h]
        simp [nD]
theorem two_pow_lt (r : Nat) : r < 2 ^ r := Nat.lt_two_pow_self
/-- a number's binary digits -/
theorem ptbits_ok (n : Nat) (st : Sto) {r : Nat} (hr : r < 1000000) : go prog (n+1) (.fn 18) [.int r] st = .ok (.lst ((bl r).map nD)) st := by
  have e := bits_loop n st 999999 r [] (Nat.lt_of_lt_of_le (two_pow_lt r) (Nat.pow_le_pow_right (Nat.succ_pos 1) (Nat.le_of_lt_succ hr))) (by simp) pures_nil
  simp only [bitsW, F18, Ss.at, S.wT, S.wB] at e
  rw [go_fn (d := F18) rfl rfl]
  simp [F18]
  rw [show many = 999999 + 1 from rfl, e]
  simp
  rw [fin_lst (m := st.length) (ds := (bl r).map nD) (by simp) (by omega) (by
    apply pures_iff.mpr
    intro d hd
    obtain ⟨x, _, rfl⟩ := List.mem_map.mp hd
    exact pure_int _)]
  simp
theorem intBits_1 {m : Nat} (h : 1 ≤ m) : Builtin.Int.intBits ((m : Int) - 1) = (bl (m - 1)).length := by
  rw [← bits_eq, show ((m : Int) - 1) = ((m - 1 : Nat) : Int) from by omega]
/-! ### loud units -/
/-- how many digits tell one of m rooms -/
def ld (m : Nat) : Nat := (bl (m - 1)).length
def uw (m : Nat) : Nat := 5 + 2 * ld m
def unitL (m r : Nat) : List D := [nD 1, nD 1, nD 1, nD 1, nD 0] ++ (dg (ld m) r).flatMap fun d => [nD d, nD 0]
theorem unitL_len (m r : Nat) : (unitL m r).length = uw m := by
  have : ∀ l : List Nat, (l.flatMap fun d => [nD d, nD 0]).length = 2 * l.length := fun l => by
    induction l with
    | nil => rfl
    | cons a l ih => simp [ih]; omega
  simp [unitL, this, dg_len, uw]
  omega
theorem ld_lt (m : Nat) (h : m < 2 ^ 60) : ld m ≤ 60 := by
  unfold ld
  rw [bl_len]
  split
  · omega
  · have : (m - 1).log2 < 60 := (Nat.log2_lt (by omega)).mpr (by omega)
    omega
theorem digits_ok (n : Nat) (st : Sto) {m : Nat} (h : 1 ≤ m) : go prog (n+1) (.fn 3) [.int m] st = .ok (.int (ld m : Nat)) st := by
  rw [go_fn (d := F3) rfl rfl]
  simp [F3, intBits_1 h, fin_pure, ld]
theorem size_ok (n : Nat) (st : Sto) {m : Nat} (h : 1 ≤ m) : go prog (n+2) (.fn 4) [.int m] st = .ok (.int (uw m : Nat)) st := by
  rw [go_fn (d := F4) rfl rfl]
  simp [F4, digits_ok n _ h, fin_pure, uw, ar_mulL, show small 2 = true from rfl]
theorem least_ok (n : Nat) (st : Sto) {m : Nat} (h : 1 ≤ m) (h2 : m < 2 ^ 60) : go prog (n+3) (.fn 5) [.int m] st = .ok (.int (uw m * (uw m + 1) : Nat)) st := by
  have := ld_lt m h2
  have hs : small (uw m : Int) = true := small_of (by omega) (by unfold uw; omega)
  rw [go_fn (d := F5) rfl rfl]
  simp [F5, size_ok n _ h, fin_pure, ar_mulL, hs]
end Ev

end
section
set_option linter.all false
set_option maxRecDepth 100000
set_option autoImplicit false
/-! S5: loud units by either. -/
namespace Ev
open PySem L2
theorem dg_succ : ∀ (k r : Nat), dg (k + 1) r = dg k r ++ [(r / 2 ^ k) % 2]
  | 0, r => by simp [dg]
  | k + 1, r => by
    rw [dg, dg_succ k (r / 2), dg, List.cons_append, Nat.div_div_eq_div_mul, Nat.pow_succ']
def uf (d : Nat) : List D := [nD d, nD 0]
def hd5 : List D := [nD 1, nD 1, nD 1, nD 1, nD 0]
theorem uf_pures : ∀ l : List Nat, pures (l.flatMap uf) = true := fun l => pures_iff.mpr fun d hd => by
  obtain ⟨a, _, h⟩ := List.mem_flatMap.mp hd
  simp [uf, nD] at h
  rcases h with rfl | rfl <;> exact pure_int _
theorem uf_len : ∀ l : List Nat, (l.flatMap uf).length = 2 * l.length := fun l => by
  induction l with
  | nil => rfl
  | cons a l ih => simp [ih, uf]; omega
theorem pures_app (a b : List D) : pures (a ++ b) = (pures a && pures b) := by
  induction a with
  | nil => simp
  | cons d r ih => simp [ih, Bool.and_assoc]
theorem unitL_pures (m r : Nat) : pures (unitL m r) = true := by
  show pures (hd5 ++ (dg (ld m) r).flatMap uf) = true
  rw [pures_app, uf_pures]
  simp [hd5, nD]
theorem unit_of_ok (n : Nat) (st : Sto) {m r : Nat} (h : 1 ≤ m) (h2 : m < 2 ^ 60) : go prog (n+2) (.fn 6) [.int m, .int r] st = .ok (.tup (unitL m r)) st := by
  have hl := ld_lt m h2
  have loop := forI_inv (p := .name 2) (tb := evSs (cx (n+1) st.length) prog.sub (F6.body.at 1).wB) (fun i env st' => ∃ t, env = [.int m, .int r, t, .ref st.length, .int ((r / 2 ^ i : Nat) : Int)] ∧ st' = st ++ [.lst (hd5 ++ (dg i r).flatMap uf)])
    ((List.range (ld m)).map fun i => .int (i : Nat)) 0 [.int m, .int r, .no, .ref st.length, .int r] (st ++ [.lst hd5]) ⟨.no, by simp, by simp [dg]⟩ (by
      rintro i d env st' hd ⟨t, rfl, rfl⟩
      rw [Nat.zero_add]
      have hi : i < ld m := by
        rcases Nat.lt_or_ge i (ld m) with z | z
        · exact z
        · rw [List.getElem?_eq_none (by simpa using z)] at hd
          cases hd
      have e1 := rec_ext (st ++ [Cell.lst (hd5 ++ (dg i r).flatMap uf)]) (n := st.length) (ds := hd5 ++ (dg i r).flatMap uf) (by simp)
      have e2 := fun a b : Int => me_ext (st ++ [Cell.lst (hd5 ++ (dg i r).flatMap uf)]) (n0 := st.length) (n := st.length) (ds := hd5 ++ (dg i r).flatMap uf) (es := [.int a, .int b]) (d := .lst [.int a, .int b]) (by simp) (by simp) (by simp) (fit_of (by rw [List.length_append, uf_len, dg_len]; simp [hd5]; omega))
      have f2 : fit 2 = true := rfl
      refine ⟨_, _, _, by simp; rfl, ?_, ⟨d, rfl, rfl⟩⟩
      simp [F6, Ss.at, S.wB, e1, e2, ar_mod, ar_fdiv, f2]
      have c1 : ∀ j : Nat, (r : Int) / 2 ^ j = ((r / 2 ^ j : Nat) : Int) := fun j => by simp
      rw [c1, c1, fdiv_nat2, fmod_nat2, dg_succ, Nat.div_div_eq_div_mul, ← Nat.pow_succ]
      simp [uf, nD])
  obtain ⟨env', st', e, t, rfl, rfl⟩ := loop
  simp only [F6, Ss.at, S.wB] at e
  have r0 := rng1 (m := ld m) (by omega)
  rw [go_fn (d := F6) rfl rfl]
  simp [F6, digits_ok _ _ h, r0]
  rw [show ([.int 1, .int 1, .int 1, .int 1, .int 0] : List D) = hd5 from rfl, e]
  have i0 := items_ref (st ++ [Cell.lst (hd5 ++ List.flatMap uf (dg (ld m) r))]) (n := st.length) (ds := hd5 ++ List.flatMap uf (dg (ld m) r)) (by simp)
  have := unitL_pures m r
  simp [i0]
  rw [fin_pure _ _ _ (by rw [pure_tup]; exact this)]
  simp [unitL, hd5]
  rfl
theorem bits_len_le {r : Nat} (h : r < 1000000) : (bl r).length ≤ 30 := by
  rw [bl_len]
  split
  · omega
  · have : r.log2 < 30 := (Nat.log2_lt (by omega)).mpr (by omega)
    omega
theorem ptsize_ok (n : Nat) (st : Sto) {m : Nat} (h : 1 ≤ m) (h2 : m < 1000000) : go prog (n+2) (.fn 19) [.int m] st = .ok (.int (uw m : Nat)) st := by
  rw [go_fn (d := F19) rfl rfl]
  have := ptbits_ok n st (r := m - 1) (by omega)
  rw [show ((m - 1 : Nat) : Int) = (m : Int) - 1 from by omega] at this
  simp [F19, this, fin_pure, uw, ar_mulL, show small 2 = true from rfl, ld]
theorem repD1 (d : D) (k : Nat) : repD [d] (k : Int) = List.replicate k d := by
  simp [repD, List.flatten_replicate_singleton]
theorem ptunit_ok (n : Nat) (st : Sto) {m r : Nat} (h : 1 ≤ m) (h2 : m < 1000000) (h3 : r < 1000000) : go prog (n+2) (.fn 20) [.int m, .int r] st = .ok (.tup (unitL m r)) st := by
  have hl := ld_lt m (by omega)
  have hb := bits_len_le h3
  have loop := forI_inv (p := .name 2) (tb := evSs (cx (n+1) st.length) prog.sub (F20.body.at 1).wB) (fun i env st' => ∃ t, env = [.int m, .int r, t, .int (ld m : Nat), .ref st.length] ∧ st' = st ++ [.lst (hd5 ++ ((dg (ld m) r).take i).flatMap uf)])
    ((dg (ld m) r).map nD) 0 [.int m, .int r, .no, .int (ld m : Nat), .ref st.length] (st ++ [.lst hd5]) ⟨.no, by simp, by simp⟩ (by
      rintro i d env st' hd ⟨t, rfl, rfl⟩
      rw [Nat.zero_add]
      have hi : i < (dg (ld m) r).length := by
        rcases Nat.lt_or_ge i (dg (ld m) r).length with z | z
        · exact z
        · rw [List.getElem?_eq_none (by simpa using z)] at hd
          cases hd
      have hd2 : d = nD (dg (ld m) r)[i] := by
        rw [List.getElem?_map, List.getElem?_eq_getElem hi] at hd
        exact (Option.some.inj hd).symm
      subst hd2
      have e1 := rec_ext (st ++ [Cell.lst (hd5 ++ ((dg (ld m) r).take i).flatMap uf)]) (n := st.length) (ds := hd5 ++ ((dg (ld m) r).take i).flatMap uf) (by simp)
      have e2 := fun a b : Int => me_ext (st ++ [Cell.lst (hd5 ++ ((dg (ld m) r).take i).flatMap uf)]) (n0 := st.length) (n := st.length) (ds := hd5 ++ ((dg (ld m) r).take i).flatMap uf) (es := [.int a, .int b]) (d := .lst [.int a, .int b]) (by simp) (by simp) (by simp) (fit_of (by rw [List.length_append, uf_len, List.length_take, dg_len]; simp [hd5]; omega))
      have f2 : fit 2 = true := rfl
      refine ⟨_, _, _, by simp; rfl, ?_, ⟨nD (dg (ld m) r)[i], rfl, rfl⟩⟩
      have tk : ((dg (ld m) r).take (i + 1)).flatMap uf = ((dg (ld m) r).take i).flatMap uf ++ uf (dg (ld m) r)[i] := by
        rw [List.take_succ, List.getElem?_eq_getElem hi]
        simp only [Option.toList, List.flatMap_append, List.flatMap_cons, List.flatMap_nil, List.append_nil]
      rw [tk]
      generalize (dg (ld m) r)[i] = x at *
      generalize ((dg (ld m) r).take i).flatMap uf = y at *
      simp [F20, Ss.at, S.wB, e1, e2, f2, nD, uf])
  obtain ⟨env', st', e, t, rfl, rfl⟩ := loop
  simp only [F20, Ss.at, S.wB] at e
  rw [go_fn (d := F20) rfl rfl]
  have b1 := ptbits_ok n st (r := m - 1) (by omega)
  rw [show ((m - 1 : Nat) : Int) = (m : Int) - 1 from by omega] at b1
  have b2 := fun st => ptbits_ok n st (r := r) (by omega)
  have f5 : fit 5 = true := rfl
  have r1 : repOk 1 ((ld m : Nat) : Int) = true := repOk_nat (by omega) (by omega)
  have f6 : fit ((bl r).length + ld m) = true := fit_of (by omega)
  have e0 : (bl (m - 1)).length = ld m := rfl
  have c0 : cutD ((bl r).map nD ++ List.replicate (ld m) (.int 0)) none (some ((ld m : Nat) : Int)) = (dg (ld m) r).map nD := by
    rw [cut_to, show (.int 0 : D) = nD 0 from rfl, ← List.map_replicate, ← List.map_append, ← List.map_take, bl_dg]
  have i0 := items_ref (st ++ [Cell.lst (hd5 ++ List.flatMap uf (dg (ld m) r))]) (n := st.length) (ds := hd5 ++ List.flatMap uf (dg (ld m) r)) (by simp)
  have pu := unitL_pures m r
  simp [F20, b1, b2, f5, e0, r1, repD1, f6, c0]
  rw [show ([.int 1, .int 1, .int 1, .int 1, .int 0] : List D) = hd5 from rfl, e]
  simp [i0]
  rw [fin_pure _ _ _ (by rw [pure_tup]; exact pu)]
  simp [unitL, hd5]
  rfl
end Ev

end
section
set_option linter.all false
set_option maxRecDepth 100000
set_option autoImplicit false
/-! S6: checks of numbers; loud units and stretches of the program. -/
namespace Ev
open PySem L2
/-- of the kinds that a law hands -/
def kd : D → Bool
  | .non => true | .bl _ => true | .int _ => true | .str _ => true | .tup _ => true | .lst _ => true
  | _ => false
def isI : D → Bool
  | .int _ => true
  | _ => false
def bet (d : D) (lo hi : Int) : Bool := match d with
  | .int x => decide (lo ≤ x) && decide (x ≤ hi)
  | _ => false
@[simp] theorem bet_int (x lo hi : Int) : bet (.int x) lo hi = (decide (lo ≤ x) && decide (x ≤ hi)) := (rfl)
theorem number_ok (n : Nat) (st : Sto) {d : D} (h : kd d = true) : go prog (n+1) (.fn 0) [d] st = .ok (.bl (isI d)) st := by
  rw [go_fn (d := F0) rfl rfl]
  cases d <;> first | (simp [kd] at h; done) | simp [F0, fin_pure, isI]
theorem between_ok (n : Nat) (st : Sto) {d : D} (lo hi : Int) (h : kd d = true) : go prog (n+2) (.fn 1) [d, .int lo, .int hi] st = .ok (.bl (bet d lo hi)) st := by
  have q := number_ok n st h
  rw [go_fn (d := F1) rfl rfl]
  cases d <;> first | (simp [kd] at h; done) | (simp [F1, fin_pure, isI, q, bet]; done) | skip
  rename_i x
  by_cases h1 : lo ≤ x <;> simp [F1, fin_pure, isI, q, h1]
@[simp] theorem sub_self {k : Nat} (h : clsL.contains k = true) : prog.sub k k = true := by
  show (clsL.contains k && (k == k || k == clsTop)) = true
  simp only [h, beq_self_eq_true, Bool.true_or, Bool.and_true]
theorem checkmany_ok (n : Nat) (st : Sto) {d : D} (lo hi : Int) (h : kd d = true) : go prog (n+3) (.fn 2) [d, .int lo, .int hi] st = pick (bet d lo hi) (fun _ => .ok .non st) fun _ => .er 2 (.int 0) st := by
  have q := between_ok n st lo hi h
  have hv : Rz.vr (some d) st = .ok d st := by cases d <;> first | rfl | simp [kd] at h
  rw [go_fn (d := F2) rfl rfl]
  cases b : bet d lo hi <;> simp [F2, q, b, hv]
theorem loudsize_ok (n : Nat) (st : Sto) {m : Nat} (h : 1 ≤ m) (h2 : m ≤ 16) : go prog (n+4) (.fn 8) [.int m] st = .ok (.int (uw m : Nat)) st := by
  have q := checkmany_ok n st (d := .int m) 1 16 rfl
  have h3 : bet (.int m) 1 16 = true := by simp [bet]; omega
  rw [h3] at q
  rw [go_fn (d := F8) rfl rfl]
  simp [F8, q, size_ok _ _ h, fin_pure]
theorem loudsize_bad (n : Nat) (st : Sto) {d : D} (hk : kd d = true) (hb : bet d 1 16 = false) : go prog (n+4) (.fn 8) [d] st = .er 2 (.int 0) st := by
  have q := checkmany_ok n st 1 16 hk
  have hv : Rz.vr (some d) st = .ok d st := by cases d <;> first | rfl | simp [kd] at hk
  rw [hb] at q
  rw [go_fn (d := F8) rfl rfl]
  simp [F8, q, hv]
theorem checkloud_ok (n : Nat) (st : Sto) {d : D} {m : Nat} (hk : kd d = true) (h : 1 ≤ m) (h2 : m ≤ 16) (hp : d.pure = true) : go prog (n+4) (.fn 9) [.int m, d] st = pick (bet d 0 ((m : Int) - 1)) (fun _ => .ok .non st) fun _ => .er 7 d st := by
  have q := checkmany_ok n st (d := .int m) 1 16 rfl
  have h3 : bet (.int m) 1 16 = true := by simp [bet]; omega
  have q2 := between_ok (n+1) st 0 ((m : Int) - 1) hk
  have hv : Rz.vr (some d) st = .ok d st := by cases d <;> first | rfl | simp [kd] at hk
  rw [h3] at q
  rw [go_fn (d := F9) rfl rfl]
  cases b : bet d 0 ((m : Int) - 1) <;> simp [F9, q, q2, b, hv, hp]
theorem checkloud_bad (n : Nat) (st : Sto) {d e : D} (hk : kd d = true) (hk2 : kd e = true) (hb : bet d 1 16 = false) : go prog (n+4) (.fn 9) [d, e] st = .er 2 (.int 0) st := by
  have q := checkmany_ok n st 1 16 hk
  have hv : Rz.vr (some d) st = .ok d st := by cases d <;> first | rfl | simp [kd] at hk
  rw [hb] at q
  rw [go_fn (d := F9) rfl rfl]
  simp [F9, q, hv]
theorem loudunit_ok (n : Nat) (st : Sto) {m r : Nat} (h : 1 ≤ m) (h2 : m ≤ 16) (hr : r < m) : go prog (n+5) (.fn 10) [.int m, .int r] st = .ok (.tup (unitL m r)) st := by
  have q := checkloud_ok n st (d := .int r) rfl h h2 (pure_int _)
  have h3 : bet (.int r) 0 ((m : Int) - 1) = true := by simp [bet]; omega
  rw [h3] at q
  have q2 := unit_of_ok (n+2) st (r := r) h (by omega)
  rw [go_fn (d := F10) rfl rfl]
  simp [F10, q, q2, fin_pure, unitL_pures]
theorem loudunit_badroom (n : Nat) (st : Sto) {m : Nat} {d : D} (h : 1 ≤ m) (h2 : m ≤ 16) (hk : kd d = true) (hp : d.pure = true) (hb : bet d 0 ((m : Int) - 1) = false) : go prog (n+5) (.fn 10) [.int m, d] st = .er 7 d st := by
  have q := checkloud_ok n st hk h h2 hp
  have hv : Rz.vr (some d) st = .ok d st := vr_pure hp _
  rw [hb] at q
  rw [go_fn (d := F10) rfl rfl]
  simp [F10, q, hv, hp]
theorem loudunit_bad (n : Nat) (st : Sto) {d e : D} (hk : kd d = true) (hk2 : kd e = true) (hb : bet d 1 16 = false) : go prog (n+5) (.fn 10) [d, e] st = .er 2 (.int 0) st := by
  have q := checkloud_bad n st hk hk2 hb
  have hv : Rz.vr (some d) st = .ok d st := by cases d <;> first | rfl | simp [kd] at hk
  have hv2 : Rz.vr (some e) st = .ok e st := by cases e <;> first | rfl | simp [kd] at hk2
  rw [go_fn (d := F10) rfl rfl]
  simp [F10, q, hv, hv2]
end Ev

end
section
set_option linter.all false
set_option maxRecDepth 100000
set_option autoImplicit false
/-! S7: loud stretches by either. -/
namespace Ev
open PySem L2
/-- so many of these, one behind another -/
def rp (k : Nat) (u : List D) : List D := (List.replicate k u).flatten
theorem rp_succ (k : Nat) (u : List D) : rp (k + 1) u = rp k u ++ u := by
  simp [rp, List.replicate_succ']
theorem rp_0 (u : List D) : rp 0 u = [] := rfl
theorem rp_len (k : Nat) (u : List D) : (rp k u).length = k * u.length := by simp [rp]
theorem repD_nat (u : List D) (k : Nat) : repD u (k : Int) = rp k u := by simp [repD, rp]
def strL (u : List D) (size : Nat) : List D := u ++ rp (size % u.length) (u ++ [nD 0]) ++ rp (size / u.length - 1 - size % u.length) u
/-- the i-th unit, with its further empty cell -/
def pcL (u : List D) (more g : Nat) : List D := u ++ if 1 ≤ g ∧ g ≤ more then [nD 0] else []
def pcs (u : List D) (more : Nat) : Nat → List D
  | 0 => []
  | i + 1 => pcs u more i ++ pcL u more i
theorem pcs_eq (u : List D) (more : Nat) : ∀ i, pcs u more (i + 1) = u ++ rp (min i more) (u ++ [nD 0]) ++ rp (i - more) u
  | 0 => by simp [pcs, pcL, rp]
  | i + 1 => by
    rw [pcs, pcs_eq u more i, pcL]
    by_cases h : i + 1 ≤ more
    · rw [if_pos ⟨by omega, h⟩, Nat.min_eq_left h, Nat.min_eq_left (by omega), show i - more = 0 from by omega, show i + 1 - more = 0 from by omega, rp_succ]
      simp [rp_0]
    · rw [if_neg (by omega), Nat.min_eq_right (by omega), Nat.min_eq_right (by omega), show i + 1 - more = (i - more) + 1 from by omega, rp_succ]
      simp
theorem pcs_len (u : List D) (more : Nat) : ∀ i, (pcs u more i).length ≤ i * (u.length + 1)
  | 0 => by simp [pcs]
  | i + 1 => by
    have := pcs_len u more i
    rw [pcs, List.length_append, Nat.succ_mul]
    have : (pcL u more i).length ≤ u.length + 1 := by
      unfold pcL
      split <;> simp
    omega
theorem pcs_strL {u : List D} {size : Nat} (h : size % u.length < size / u.length) : pcs u (size % u.length) (size / u.length) = strL u size := by
  obtain ⟨k, hk⟩ : ∃ k, size / u.length = k + 1 := ⟨size / u.length - 1, by omega⟩
  rw [hk, pcs_eq, strL, hk, Nat.min_eq_right (by omega)]
  rfl
theorem strL_len {u : List D} {size : Nat} (h0 : 0 < u.length) (h : size % u.length < size / u.length) : (strL u size).length = size := by
  have e := Nat.div_add_mod size u.length
  simp only [strL, List.length_append, rp_len, List.length_cons, List.length_nil]
  generalize hq : size / u.length = q at *
  generalize hr : size % u.length = r at *
  obtain ⟨k, rfl⟩ : ∃ k, q = r + 1 + k := ⟨q - r - 1, by omega⟩
  rw [show r + 1 + k - 1 - r = k from by omega]
  rw [← e]
  generalize u.length = w
  simp only [Nat.mul_add, Nat.add_mul, Nat.mul_one, Nat.zero_add]
  rw [Nat.mul_comm r w, Nat.mul_comm k w]
  omega
theorem pures_rp {u : List D} (h : pures u = true) : ∀ k, pures (rp k u) = true
  | 0 => pures_nil
  | k + 1 => by rw [rp_succ, pures_app, pures_rp h k, h]; rfl
theorem strL_pures {u : List D} (h : pures u = true) (size : Nat) : pures (strL u size) = true := by
  have h2 : pures (u ++ [nD 0]) = true := by rw [pures_app, h]; simp [nD]
  rw [strL, pures_app, pures_app, h, pures_rp h2, pures_rp h]
  rfl
theorem uw_pos (m : Nat) : 5 ≤ uw m := by unfold uw; omega
theorem ld16 {m : Nat} (h : m ≤ 16) : ld m ≤ 4 := by
  unfold ld
  rw [bl_len]
  split
  · omega
  · have : (m - 1).log2 < 4 := (Nat.log2_lt (by omega)).mpr (by omega)
    omega
theorem uw16 {m : Nat} (h : m ≤ 16) : uw m ≤ 13 := by
  have := ld16 h
  unfold uw
  omega
theorem more_lt {w size : Nat} (h0 : 0 < w) (h : w * (w + 1) ≤ size) : size % w < size / w := by
  have h1 := Nat.mod_lt size h0
  have h2 : w + 1 ≤ size / w := (Nat.le_div_iff_mul_le h0).mpr (by rw [Nat.mul_comm]; exact h)
  omega
theorem stretch_of_ok (n : Nat) (st : Sto) {m r size : Nat} (h : 1 ≤ m) (h2 : m ≤ 16) (hs : uw m * (uw m + 1) ≤ size) (hs2 : size ≤ 5000) : go prog (n+3) (.fn 7) [.int m, .int r, .int size] st = .ok (.tup (strL (unitL m r) size)) st := by
  have q := unit_of_ok n st (r := r) h (by omega)
  have hl := unitL_len m r
  have hw := uw_pos m
  have hm := more_lt (w := uw m) (by omega) hs
  have hq : size / uw m ≤ size := Nat.div_le_self _ _
  have hu := uw16 h2
  have e0 : ((uw m : Nat) : Int) ≠ 0 := by omega
  have e2 : ((uw m : Nat) : Int).natAbs < 1073741824 := by omega
  have a1 : arith .fdiv (size : Int) ((uw m : Nat) : Int) = some ((size / uw m : Nat) : Int) := by rw [ar_fdiv e0 e2, fdiv_nat]
  have a2 : arith .mod (size : Int) ((uw m : Nat) : Int) = some ((size % uw m : Nat) : Int) := by rw [ar_mod e0, fmod_nat]
  have hfin := fin_pure st (d := .tup (strL (unitL m r) size)) st.length false (by rw [pure_tup]; exact strL_pures (unitL_pures m r) size)
  have hlen := strL_len (u := unitL m r) (size := size) (by omega) (by rw [hl]; exact hm)
  rw [strL, hl] at hlen hfin
  rw [strL, hl]
  generalize unitL m r = u at *
  generalize size / uw m = Q at *
  generalize size % uw m = R at *
  obtain ⟨k, rfl⟩ : ∃ k, Q = R + 1 + k := ⟨Q - R - 1, by omega⟩
  have hk : R + 1 + k - 1 - R = k := by omega
  rw [hk] at hlen hfin
  rw [hk]
  have e1 : ((R + 1 + k : Nat) : Int) - 1 - (R : Int) = (k : Int) := by omega
  have r1 : repOk (u.length + 1) (R : Int) = true := repOk_nat (by omega) (by
    rw [hl]
    have := Nat.mul_le_mul (show uw m + 1 ≤ 14 from by omega) (show R ≤ 5000 from by omega)
    omega)
  have r2 : repOk u.length (k : Int) = true := repOk_nat (by omega) (by
    rw [hl]
    have := Nat.mul_le_mul (show uw m ≤ 14 from by omega) (show k ≤ 5000 from by omega)
    omega)
  simp only [List.length_append] at hlen
  have f1 : fit (u.length + 1) = true := fit_of (by omega)
  have f2 : fit (u.length + (rp R (u ++ [nD 0])).length) = true := fit_of (by omega)
  have f3 : fit (u.length + (rp R (u ++ [nD 0])).length + (rp k u).length) = true := fit_of (by omega)
  have z0 : (D.int 0) = nD 0 := rfl
  rw [go_fn (d := F7) rfl rfl]
  simp only [F7]
  generalize ((R + 1 + k : Nat) : Int) = QI at *
  have l1 : lenD st (.tup u) = some (uw m) := by rw [lenD_tup, hl]
  simp only [rp_len, List.length_append, List.length_cons, List.length_nil, Nat.zero_add] at f2 f3
  simp [q, l1, a1, a2, e1, r1, r2, f1, repD_nat, z0, rp_len, f2, f3]
  simpa using hfin
theorem loudstretch_ok (n : Nat) (st : Sto) {m r size : Nat} (h : 1 ≤ m) (h2 : m ≤ 16) (hr : r < m) (hs : uw m * (uw m + 1) ≤ size) (hs2 : size ≤ 5000) : go prog (n+5) (.fn 11) [.int m, .int r, .int size] st = .ok (.tup (strL (unitL m r) size)) st := by
  have q := checkloud_ok n st (d := .int r) rfl h h2 (pure_int _)
  have h3 : bet (.int r) 0 ((m : Int) - 1) = true := by simp [bet]; omega
  rw [h3] at q
  have q2 := stretch_of_ok (n+1) st (r := r) h h2 hs hs2
  have q3 := between_ok (n+2) st (d := .int size) (uw m * (uw m + 1) : Nat) 5000 rfl
  have h4 : bet (.int size) (uw m * (uw m + 1) : Nat) 5000 = true := by
    rw [bet_int, Bool.and_eq_true, decide_eq_true_eq, decide_eq_true_eq]
    omega
  rw [h4] at q3
  have q4 := least_ok (n+1) st h (by omega)
  have hp : pures (strL (unitL m r) size) = true := strL_pures (unitL_pures m r) size
  rw [go_fn (d := F11) rfl rfl]
  generalize ((uw m * (uw m + 1) : Nat) : Int) = L at *
  simp [F11, q, q2, q3, q4, fin_pure, hp]
theorem loudstretch_badsize (n : Nat) (st : Sto) {m r : Nat} {d : D} (h : 1 ≤ m) (h2 : m ≤ 16) (hr : r < m) (hk : kd d = true) (hp : d.pure = true) (hb : bet d (uw m * (uw m + 1) : Nat) 5000 = false) : go prog (n+5) (.fn 11) [.int m, .int r, d] st = .er 10 (.int (uw m * (uw m + 1) : Nat)) st := by
  have q := checkloud_ok n st (d := .int r) rfl h h2 (pure_int _)
  have h3 : bet (.int r) 0 ((m : Int) - 1) = true := by simp [bet]; omega
  rw [h3] at q
  have q3 := between_ok (n+2) st (uw m * (uw m + 1) : Nat) 5000 hk
  rw [hb] at q3
  have q4 := least_ok (n+1) st h (by omega)
  have hv : Rz.vr (some d) st = .ok d st := vr_pure hp _
  rw [go_fn (d := F11) rfl rfl]
  generalize ((uw m * (uw m + 1) : Nat) : Int) = L at *
  simp [F11, q, q3, q4, hv]
theorem loudstretch_badroom (n : Nat) (st : Sto) {m : Nat} {d e : D} (h : 1 ≤ m) (h2 : m ≤ 16) (hk : kd d = true) (hp : d.pure = true) (hp2 : e.pure = true) (hb : bet d 0 ((m : Int) - 1) = false) : go prog (n+5) (.fn 11) [.int m, d, e] st = .er 7 d st := by
  have q := checkloud_ok n st hk h h2 hp
  have hv : Rz.vr (some d) st = .ok d st := vr_pure hp _
  rw [hb] at q
  rw [go_fn (d := F11) rfl rfl]
  simp [F11, q, hv, hp]
theorem loudstretch_bad (n : Nat) (st : Sto) {d e f : D} (hk : kd d = true) (hk2 : kd e = true) (hb : bet d 1 16 = false) : go prog (n+5) (.fn 11) [d, e, f] st = .er 2 (.int 0) st := by
  have q := checkloud_bad n st hk hk2 hb
  have hv : Rz.vr (some d) st = .ok d st := by cases d <;> first | rfl | simp [kd] at hk
  have hv2 : Rz.vr (some e) st = .ok e st := by cases e <;> first | rfl | simp [kd] at hk2
  rw [go_fn (d := F11) rfl rfl]
  simp [F11, q, hv, hv2]
end Ev

end
section
set_option linter.all false
set_option maxRecDepth 100000
set_option autoImplicit false
/-! S8: the law's own loud stretch. -/
namespace Ev
open PySem L2
theorem range_get {m i : Nat} {d : D} (h : ((List.range m).map fun i => D.int (i : Nat))[i]? = some d) : i < m ∧ d = .int (i : Nat) := by
  rcases Nat.lt_or_ge i m with z | z
  · rw [List.getElem?_map, List.getElem?_eq_getElem (by simpa using z)] at h
    simp at h
    exact ⟨z, h.symm⟩
  · rw [List.getElem?_eq_none (by simpa using z)] at h
    cases h
theorem ptstretch_ok (n : Nat) (st : Sto) {m r size : Nat} (h : 1 ≤ m) (h2 : m ≤ 16) (h3 : r < 1000000) (hs : uw m * (uw m + 1) ≤ size) (hs2 : size ≤ 5000) : go prog (n+3) (.fn 21) [.int m, .int r, .int size] st = .ok (.tup (strL (unitL m r) size)) st := by
  have q := ptunit_ok n st (r := r) h (by omega) h3
  have hl := unitL_len m r
  have hw := uw_pos m
  have hm := more_lt (w := uw m) (by omega) hs
  have hq : size / uw m ≤ size := Nat.div_le_self _ _
  have hu := uw16 h2
  have e0 : ((uw m : Nat) : Int) ≠ 0 := by omega
  have e2 : ((uw m : Nat) : Int).natAbs < 1073741824 := by omega
  have a1 : arith .fdiv (size : Int) ((uw m : Nat) : Int) = some ((size / uw m : Nat) : Int) := by rw [ar_fdiv e0 e2, fdiv_nat]
  have a2 : arith .mod (size : Int) ((uw m : Nat) : Int) = some ((size % uw m : Nat) : Int) := by rw [ar_mod e0, fmod_nat]
  have hp : pures (unitL m r) = true := unitL_pures m r
  have hp2 := strL_pures hp size
  have hpcs := pcs_strL (u := unitL m r) (size := size) (by rw [hl]; exact hm)
  have hpl := fun i => pcs_len (unitL m r) (size % uw m) i
  rw [hl] at hpcs
  have l1 : ∀ st, lenD st (.tup (unitL m r)) = some (uw m) := fun st => by rw [lenD_tup, hl]
  rw [hl] at hpl
  rw [← hpcs] at hp2 ⊢
  generalize unitL m r = u at *
  generalize size / uw m = Q at *
  generalize size % uw m = R at *
  have loop := forI_inv (p := .name 4) (tb := evSs (cx (n+2) st.length) prog.sub (F21.body.at 2).wB) (fun i env st' => ∃ t, env = [.int m, .int r, .int size, .tup u, t, .int Q, .int R, .ref st.length] ∧ st' = st ++ [.lst (pcs u R i)])
    ((List.range Q).map fun i => .int (i : Nat)) 0 [.int m, .int r, .int size, .tup u, .no, .int Q, .int R, .ref st.length] (st ++ [.lst []]) ⟨.no, by simp, by simp [pcs]⟩ (by
      rintro i d env st' hd ⟨t, rfl, rfl⟩
      obtain ⟨hi, rfl⟩ := range_get hd
      rw [Nat.zero_add]
      have hle : (pcs u R i).length ≤ 100000 := by
        have := hpl i
        have := Nat.mul_le_mul (show i ≤ 5000 from by omega) (show uw m + 1 ≤ 14 from by omega)
        omega
      have e1 := rec_ext (st ++ [Cell.lst (pcs u R i)]) (n := st.length) (ds := pcs u R i) (by simp)
      have e2 := fun es (q : (pcs u R i).length + es.length ≤ 16777216) => me_ext (st ++ [Cell.lst (pcs u R i)]) (n0 := st.length) (n := st.length) (ds := pcs u R i) (es := es) (d := .lst es) (by simp) (by simp) (by simp) (fit_of q)
      refine ⟨_, _, _, by simp; rfl, ?_, ⟨.int i, rfl, rfl⟩⟩
      have f1 : fit (u.length + 1) = true := fit_of (by omega)
      have f0 : fit u.length = true := fit_of (by omega)
      have ro1 : repOk 1 1 = true := rfl
      have ro0 : repOk 1 0 = true := rfl
      have d0 : repD [.int 0] 0 = [] := rfl
      have d1 : repD [.int 0] 1 = [.int 0] := rfl
      by_cases c : 1 ≤ i ∧ i ≤ R
      · have c1 : (1 : Int) ≤ (i : Int) := by omega
        have c2 : (i : Int) ≤ (R : Int) := by omega
        have e3 := e2 (u ++ [.int 0]) (by simp; omega)
        have c3 : 0 < i := by omega
        simp [F21, Ss.at, S.wB, e1, nD, c1, c2, ro1, d1, f1, e3, pcs, pcL, c, c3]
      · have e3 := e2 u (by omega)
        by_cases c1 : 1 ≤ i
        · have c2 : ¬ ((i : Int) ≤ (R : Int)) := by omega
          have c3 : ¬ (i ≤ R) := by omega
          have c4 : 0 < i := by omega
          have c5 : (1 : Int) ≤ (i : Int) := by omega
          simp [F21, Ss.at, S.wB, e1, nD, c5, c2, c3, ro0, d0, f0, e3, pcs, pcL, c4]
        · have c2 : ¬ ((1 : Int) ≤ (i : Int)) := by omega
          have c4 : ¬ (0 < i) := by omega
          simp [F21, Ss.at, S.wB, e1, nD, c2, ro0, d0, f0, e3, pcs, pcL, c4]
          omega)
  obtain ⟨env', st', e, t, rfl, rfl⟩ := loop
  simp only [F21, Ss.at, S.wB] at e
  have r0 := rng1 (m := Q) (by omega)
  simp only [List.length_map, List.length_range, Nat.zero_add] at e
  have i0 := items_ref (st ++ [Cell.lst (pcs u R Q)]) (n := st.length) (ds := pcs u R Q) (by simp)
  rw [go_fn (d := F21) rfl rfl]
  simp [F21, q, l1, a1, a2, r0, e, i0, fin_pure, hp2]
end Ev

end
section
set_option linter.all false
set_option maxRecDepth 100000
set_option autoImplicit false
/-! S9: reading back. -/
namespace Ev
open PySem L2
/-! ### dicts -/
theorem putN_new {kvs : List (D × D)} {k v : D} (h : nkOf k ∉ kvs.map fun p => nkOf p.1) : putN kvs k v = kvs ++ [(k, v)] := by
  have e : (kvs.any fun p => decide (nkOf p.1 = nkOf k)) = false := by
    apply List.any_eq_false.mpr
    intro p hp
    simp only [decide_eq_true_eq]
    intro q
    exact h (List.mem_map.mpr ⟨p, hp, q⟩)
  simp only [putN, e, cond_false]
theorem putN_fold : ∀ (l acc : List (D × D)), ((acc ++ l).map fun p => nkOf p.1).Nodup → l.foldl (fun a p => putN a p.1 p.2) acc = acc ++ l
  | [], acc, _ => by simp
  | p :: l, acc, h => by
    have h1 : nkOf p.1 ∉ acc.map fun p => nkOf p.1 := by
      intro q
      rw [List.map_append, List.map_cons] at h
      exact (List.nodup_append.mp h).2.2 _ q _ List.mem_cons_self rfl
    rw [List.foldl_cons, putN_new h1, putN_fold l (acc ++ [(p.1, p.2)]) (by simpa using h)]
    simp
theorem pairsD_map {α : Type} (f g : α → D) : ∀ l : List α, pairsD (l.map fun x => .tup [f x, g x]) = some (l.map fun x => (f x, g x))
  | [] => rfl
  | a :: l => by
    rw [List.map_cons, pairsD, pairsD_map f g l]
    rfl
theorem dictW_ok {α : Type} (st : Sto) (f g : α → D) (l : List α) (hn : (l.map fun x => nkOf (f x)).Nodup) (hk : ∀ x ∈ l, tkey (f x) = true) (hl : l.length ≤ 16777216) : biD st .dict [.lst (l.map fun x => .tup [f x, g x])] = .ok (.dic (l.map f) (l.map g)) st := by
  have h1 : ((l.map fun x => (f x, g x)).all fun p => tkey p.1) = true := by
    apply List.all_eq_true.mpr
    intro p hp
    obtain ⟨x, hx, rfl⟩ := List.mem_map.mp hp
    exact hk x hx
  have h2 : fit (l.map fun x => (f x, g x)).length = true := fit_of (by simpa using hl)
  have h3 := putN_fold (l.map fun x => (f x, g x)) [] (by
    rw [List.nil_append, List.map_map]
    exact hn)
  unfold biD
  simp only [litems, Option.bind_some, pairsD_map, h1, h2, Bool.and_self, cond_true, h3, List.nil_append, List.map_map]
  rfl
theorem in_dic (st : Sto) {ks vs : List D} {k : D} (hk : tkey k = true) : inD st k (.dic ks vs) = some (ks.any fun z => decide (nkOf z = nkOf k)) := by
  simp only [inD, hk, cond_true]
theorem cmp_notin (st : Sto) (a b : D) : cmpD st .notin a b = Rz.of ((inD st a b).map fun k => .bl (!k)) st := by
  unfold cmpD
  dsimp only
  cases inD st a b <;> rfl
theorem cmp_in (st : Sto) (a b : D) : cmpD st .isin a b = Rz.of ((inD st a b).map fun k => .bl k) st := by
  unfold cmpD
  dsimp only
  cases inD st a b <;> rfl
theorem ix_dic (st : Sto) {ks vs : List D} {k : D} (hk : tkey k = true) : ixD st (.dic ks vs) k = Rz.of (atKV ks vs k) st := by
  unfold ixD
  simp only [items, hk, cond_true]
  cases atKV ks vs k <;> rfl
/-! ### units' keys -/
theorem nk_dg : ∀ (k a b : Nat), (dg k a = dg k b) → a < 2 ^ k → b < 2 ^ k → a = b
  | 0, a, b, _, ha, hb => by simp at ha hb; omega
  | k + 1, a, b, h, ha, hb => by
    simp only [dg, List.cons.injEq] at h
    have := nk_dg k (a / 2) (b / 2) h.2 (by omega) (by omega)
    omega
theorem nkOfs_map (l : List Nat) : nkOfs (l.map nD) = l.map fun i : Nat => NestedKey.num (i : Int) := by
  induction l with
  | nil => rw [List.map_nil, List.map_nil, nkOfs]
  | cons a l ih => rw [List.map_cons, List.map_cons, nkOfs, ih, nD, nkOf]
def unitN (m r : Nat) : List Nat := [1, 1, 1, 1, 0] ++ (dg (ld m) r).flatMap fun d => [d, 0]
theorem unitL_map (m r : Nat) : unitL m r = (unitN m r).map nD := by
  simp [unitL, unitN, List.map_flatMap]
theorem dbl_inj : ∀ (a b : List Nat), (a.flatMap fun d => [d, 0]) = (b.flatMap fun d => [d, 0]) → a = b
  | [], [], _ => rfl
  | [], _ :: _, h => by simp at h
  | _ :: _, [], h => by simp at h
  | x :: a, y :: b, h => by
    simp at h
    rw [h.1, dbl_inj a b h.2]
theorem num_inj (a b : List Nat) (h : (a.map fun i : Nat => NestedKey.num (i : Int)) = b.map fun i : Nat => NestedKey.num (i : Int)) : a = b := by
  induction a generalizing b with
  | nil => cases b with
    | nil => rfl
    | cons _ _ => simp at h
  | cons x a ih => cases b with
    | nil => simp at h
    | cons y b =>
      simp at h
      rw [show x = y from by omega, ih b (by simpa using h.2)]
theorem lt_two_ld {m r : Nat} (h : r < m) : r < 2 ^ ld m := by
  unfold ld
  rw [bl_len]
  split
  · rename_i z
    have : r = 0 := by omega
    subst this
    decide
  · rename_i z
    have h1 : m - 1 < 2 ^ ((m - 1).log2 + 1) := Nat.lt_log2_self
    omega
theorem unit_inj {m a b : Nat} (ha : a < m) (hb : b < m) (h : nkOf (.tup (unitL m a)) = nkOf (.tup (unitL m b))) : a = b := by
  rw [nkOf, nkOf, unitL_map, unitL_map, nkOfs_map, nkOfs_map] at h
  have h2 := num_inj _ _ (NestedKey.tup.inj h)
  unfold unitN at h2
  exact nk_dg _ _ _ (dbl_inj _ _ (List.append_cancel_left h2)) (lt_two_ld ha) (lt_two_ld hb)
theorem unit_tkey (m r : Nat) : tkey (.tup (unitL m r)) = true := by
  show (unitL m r).all (keyB 7) = true
  rw [unitL_map]
  apply List.all_eq_true.mpr
  intro d hd
  obtain ⟨x, _, rfl⟩ := List.mem_map.mp hd
  rfl
def keysU (m : Nat) : List D := (List.range m).map fun r => .tup (unitL m r)
def valsU (m : Nat) : List D := (List.range m).map fun r => .int (r : Nat)
theorem keysU_nodup (m : Nat) : ((List.range m).map fun r => nkOf (.tup (unitL m r))).Nodup :=
  List.pairwise_map.mpr (List.Pairwise.imp_of_mem (fun ha hb hne e => hne (unit_inj (List.mem_range.mp ha) (List.mem_range.mp hb) e)) (List.nodup_range (n := m)))
theorem keysU_in {m r : Nat} (h : r < m) : ((keysU m).any fun z => decide (nkOf z = nkOf (.tup (unitL m r)))) = true := by
  apply List.any_eq_true.mpr
  exact ⟨.tup (unitL m r), List.mem_map.mpr ⟨r, List.mem_range.mpr h, rfl⟩, by simp⟩
theorem zip_map_self {α β γ : Type} (f : α → β) (g : α → γ) : ∀ l : List α, (l.map f).zip (l.map g) = l.map fun x => (f x, g x)
  | [] => rfl
  | a :: l => by simp [zip_map_self f g l]
theorem keysU_at {m r : Nat} (h : r < m) : atKV (keysU m) (valsU m) (.tup (unitL m r)) = some (.int (r : Nat)) := by
  unfold atKV keysU valsU
  rw [zip_map_self]
  rw [show ((List.range m).map fun x => ((D.tup (unitL m x), D.int (x : Nat)) : D × D)).find? (fun p => decide (nkOf p.1 = nkOf (.tup (unitL m r)))) = some (.tup (unitL m r), .int (r : Nat)) from by
    rw [List.find?_map]
    have : (List.range m).find? ((fun p : D × D => decide (nkOf p.1 = nkOf (.tup (unitL m r)))) ∘ fun x => ((D.tup (unitL m x), D.int (x : Nat)) : D × D)) = some r := by
      rw [List.find?_eq_some_iff_getElem]
      refine ⟨by simp, r, by simpa using h, by simp, fun j hj => ?_⟩
      simp only [Function.comp, List.getElem_range, Bool.not_eq_true', decide_eq_false_iff_not]
      intro e
      have := unit_inj (by omega) h e
      omega
    rw [this]
    rfl]
  rfl
/-! ### pieces -/
theorem pcs_split (u : List D) (R : Nat) : ∀ (Q j : Nat), j < Q → ∃ rest, pcs u R Q = pcs u R j ++ pcL u R j ++ rest ∧ (j + 1 = Q ∧ rest = [] ∨ j + 1 < Q ∧ ∃ r', rest = u ++ r')
  | Q + 1, j, h => by
    by_cases e : j = Q
    · subst e
      exact ⟨[], by simp [pcs], .inl ⟨rfl, rfl⟩⟩
    · obtain ⟨rest, h1, h2⟩ := pcs_split u R Q j (by omega)
      refine ⟨rest ++ pcL u R Q, by simp [pcs, h1], .inr ⟨by omega, ?_⟩⟩
      rcases h2 with ⟨_, rfl⟩ | ⟨_, r', rfl⟩
      · exact ⟨if 1 ≤ Q ∧ Q ≤ R then [nD 0] else [], by simp [pcL]⟩
      · exact ⟨r' ++ pcL u R Q, by simp⟩
def flags (R j : Nat) : List D := (List.range j).map fun g => .bl (decide (1 ≤ g ∧ g ≤ R))
theorem flags_succ (R j : Nat) : flags R (j + 1) = flags R j ++ [.bl (decide (1 ≤ j ∧ j ≤ R))] := by
  simp [flags, List.range_succ]
abbrev backW : S := F24.body.at 2
theorem back_step (n : Nat) (st : Sto) (rm : D) {m r Q R j : Nat} (x y z : D) (hr : r < m) (hm : m ≤ 16) (hj : j < Q) (hQ : Q ≤ 5000) :
    ∃ x' y', evSs (cx n st.length) prog.sub backW.wB [.int m, .tup (pcs (unitL m r) R Q), .dic (keysU m) (valsU m), .int (uw m : Nat), .int ((pcs (unitL m r) R j).length : Nat), .ref st.length, .ref (st.length + 1), x, y, z] (st ++ [.lst (List.replicate j (.int (r : Nat))), .lst (flags R j)]) =
      .nx [.int m, .tup (pcs (unitL m r) R Q), .dic (keysU m) (valsU m), .int (uw m : Nat), .int ((pcs (unitL m r) R (j + 1)).length : Nat), .ref st.length, .ref (st.length + 1), x', y', z] (st ++ [.lst (List.replicate (j + 1) (.int (r : Nat))), .lst (flags R (j + 1))]) := by
  obtain ⟨rest, h1, h2⟩ := pcs_split (unitL m r) R Q j hj
  have hl := unitL_len m r
  have hk := unit_tkey m r
  have hin := keysU_in hr
  have hat := keysU_at hr
  have hlen : (pcs (unitL m r) R Q).length = (pcs (unitL m r) R j).length + (pcL (unitL m r) R j).length + rest.length := by
    rw [h1]
    simp [Nat.add_assoc]
  have hstep : (pcs (unitL m r) R (j + 1)).length = (pcs (unitL m r) R j).length + (pcL (unitL m r) R j).length := by simp [pcs]
  have hcut : cutD (pcs (unitL m r) R Q) (some ((pcs (unitL m r) R j).length : Int)) (some (((pcs (unitL m r) R j).length : Int) + (uw m : Nat))) = unitL m r := by
    rw [← Int.natCast_add, cut_mid, h1, List.append_assoc, List.drop_left, Nat.add_sub_cancel_left, ← hl]
    unfold pcL
    rw [List.append_assoc, List.take_left]
  have ha : ∀ {ds : List D}, (st ++ [Cell.lst ds, .lst (flags R j)])[st.length]? = some (.lst ds) := by simp
  have e1 := rec_app (st ++ [Cell.lst (List.replicate j (D.int (r : Nat))), .lst (flags R j)]) (n := st.length) ha
  have e2 := me_app (st ++ [Cell.lst (List.replicate j (D.int (r : Nat))), .lst (flags R j)]) (n0 := st.length) (n := st.length) (d := .int (r : Nat)) ha (by simp) (by have : sizeLine = 16777216 := rfl; simp; omega)
  have hb : ∀ {ds : List D}, (st ++ [Cell.lst ds, .lst (flags R j)])[st.length + 1]? = some (.lst (flags R j)) := by simp
  have e3 := rec_app (st ++ [Cell.lst (List.replicate j (D.int (r : Nat)) ++ [.int (r : Nat)]), .lst (flags R j)]) (n := st.length + 1) hb
  have e4 := fun d => me_app (st ++ [Cell.lst (List.replicate j (D.int (r : Nat)) ++ [.int (r : Nat)]), .lst (flags R j)]) (n0 := st.length) (n := st.length + 1) (d := d) hb (by simp) (by have : sizeLine = 16777216 := rfl; simp [flags]; omega)
  have hrep : List.replicate (j + 1) (D.int (r : Nat)) = List.replicate j (D.int (r : Nat)) ++ [.int (r : Nat)] := List.replicate_succ'
  have hfl := flags_succ R j
  have nin : ∀ st, cmpD st .notin (.tup (unitL m r)) (.dic (keysU m) (valsU m)) = .ok (.bl false) st := fun st => by
    rw [cmp_notin, in_dic _ hk, hin]
    rfl
  have nix : ∀ st, ixD st (.dic (keysU m) (valsU m)) (.tup (unitL m r)) = .ok (.int (r : Nat)) st := fun st => by
    rw [ix_dic _ hk, hat]
    rfl
  have key : ∀ b : Bool, b = decide (1 ≤ j ∧ j ≤ R) → ((if b = true then 1 else 0 : Nat) + (pcs (unitL m r) R j).length + uw m = (pcs (unitL m r) R (j + 1)).length) := fun b hb => by
    rw [hstep, hb]
    unfold pcL
    by_cases c : 1 ≤ j ∧ j ≤ R
    · simp [c, hl]
      omega
    · simp [c, hl]
      try omega
  have more : (((pcs (unitL m r) R j).length + uw m < (pcs (unitL m r) R Q).length) ∧ (pcs (unitL m r) R Q)[(pcs (unitL m r) R j).length + uw m]? = some (if 1 ≤ j ∧ j ≤ R then nD 0 else nD 1)) ∨ (¬ ((pcs (unitL m r) R j).length + uw m < (pcs (unitL m r) R Q).length) ∧ ¬ (1 ≤ j ∧ j ≤ R)) := by
    by_cases c : 1 ≤ j ∧ j ≤ R
    · left
      rw [if_pos c, h1]
      simp only [pcL, if_pos c, List.length_append, List.length_cons, List.length_nil, hl]
      refine ⟨by omega, ?_⟩
      rw [List.append_assoc, List.getElem?_append_right (by omega), List.append_assoc, List.getElem?_append_right (by omega)]
      simp [hl]
    · rcases h2 with ⟨_, h2⟩ | ⟨_, r', h2⟩
      · right
        rw [h1, h2]
        simp [pcL, c, hl]
      · left
        rw [if_neg c, h1, h2]
        simp only [pcL, if_neg c, List.append_nil, List.length_append, hl]
        have := uw_pos m
        refine ⟨by omega, ?_⟩
        rw [List.getElem?_append_right (by simp [hl]), List.length_append, hl, Nat.sub_self]
        rfl
  generalize pcs (unitL m r) R Q = C at *
  generalize (pcs (unitL m r) R j).length = a at *
  generalize (pcs (unitL m r) R (j + 1)).length = a' at *
  generalize flags R j = F at *
  generalize List.replicate j (D.int (r : Nat)) = G at *
  have lC : ∀ st, lenD st (.tup C) = some C.length := fun st => lenD_tup st C
  refine ⟨.tup (unitL m r), .bl (decide (1 ≤ j ∧ j ≤ R)), ?_⟩
  rcases more with ⟨k1, k2⟩ | ⟨k1, k2⟩
  · have k3 : ((a : Int) + (uw m : Nat) < (C.length : Int)) := by omega
    have k4 : atI C ((a : Int) + (uw m : Nat)) = some (if 1 ≤ j ∧ j ≤ R then nD 0 else nD 1) := by
      rw [← Int.natCast_add, atI_nat]
      exact k2
    by_cases c : 1 ≤ j ∧ j ≤ R
    · have k5 := key true (by simp [c])
      simp at k5
      have k6 : (a' : Int) = (a : Int) + (uw m : Nat) + 1 := by omega
      rw [k6]
      simp [backW, F24, Ss.at, S.wB, hcut, nin, nix, e1, e2, k3, k4, c, e3, e4, hrep, hfl, nD]
    · have k5 := key false (by simp [c])
      simp at k5
      have k6 : (a' : Int) = (a : Int) + (uw m : Nat) := by omega
      rw [k6]
      simp [backW, F24, Ss.at, S.wB, hcut, nin, nix, e1, e2, k3, k4, c, e3, e4, hrep, hfl, nD]
  · have k3 : ¬ ((a : Int) + (uw m : Nat) < (C.length : Int)) := by omega
    have k5 := key false (by simp [k2])
    simp at k5
    have k6 : (a' : Int) = (a : Int) + (uw m : Nat) := by omega
    rw [k6]
    simp [backW, F24, Ss.at, S.wB, hcut, nin, nix, e1, e2, k3, k2, e3, e4, hrep, hfl, nD]
end Ev

end
section
set_option linter.all false
set_option maxRecDepth 100000
set_option autoImplicit false
/-! S10: reading back, the loop and the def. -/
namespace Ev
open PySem L2
theorem pcs_lt {u : List D} {R Q j : Nat} (hu : 0 < u.length) (h : j < Q) : (pcs u R j).length < (pcs u R Q).length := by
  obtain ⟨rest, h1, _⟩ := pcs_split u R Q j h
  rw [h1]
  simp [pcL]
  omega
theorem back_loop (n : Nat) (st : Sto) (rm : D) {m r Q R : Nat} (z : D) (hr : r < m) (hm : m ≤ 16) (hQ : Q ≤ 5000) : ∀ (f j : Nat) (x y : D), Q - j < f → j ≤ Q →
    ∃ x' y', whl (evT (cx n st.length) backW.wT) (evSs (cx n st.length) prog.sub backW.wB) f [.int m, .tup (pcs (unitL m r) R Q), .dic (keysU m) (valsU m), .int (uw m : Nat), .int ((pcs (unitL m r) R j).length : Nat), .ref st.length, .ref (st.length + 1), x, y, z] (st ++ [.lst (List.replicate j (.int (r : Nat))), .lst (flags R j)]) =
      .nx [.int m, .tup (pcs (unitL m r) R Q), .dic (keysU m) (valsU m), .int (uw m : Nat), .int ((pcs (unitL m r) R Q).length : Nat), .ref st.length, .ref (st.length + 1), x', y', z] (st ++ [.lst (List.replicate Q (.int (r : Nat))), .lst (flags R Q)])
  | 0, j, x, y, h, _ => by omega
  | f + 1, j, x, y, h, hj => by
    rw [whl_succ]
    by_cases e : j = Q
    · subst e
      exact ⟨x, y, by simp [backW, F24, Ss.at, S.wT]⟩
    · have hlt := pcs_lt (u := unitL m r) (R := R) (by rw [unitL_len]; have := uw_pos m; omega) (show j < Q by omega)
      obtain ⟨x', y', st1⟩ := back_step n st rm (R := R) x y z hr hm (show j < Q by omega) hQ
      obtain ⟨x2, y2, ih⟩ := back_loop n st rm z hr hm hQ f (j + 1) x' y' (by omega) (by omega)
      refine ⟨x2, y2, ?_⟩
      rw [← ih]
      generalize (pcs (unitL m r) R (j + 1)).length = a' at *
      have hT : evT (cx n st.length) backW.wT [.int m, .tup (pcs (unitL m r) R Q), .dic (keysU m) (valsU m), .int (uw m : Nat), .int ((pcs (unitL m r) R j).length : Nat), .ref st.length, .ref (st.length + 1), x, y, z] (st ++ [.lst (List.replicate j (.int (r : Nat))), .lst (flags R j)]) = .ok true (st ++ [.lst (List.replicate j (.int (r : Nat))), .lst (flags R j)]) := by
        simp [backW, F24, Ss.at, S.wT, hlt]
      rw [hT, fk_ok, f_whl, whlB_true, st1, turn_nx]
theorem firsts_rep {α : Type} [DecidableEq α] (a : α) : ∀ k, firsts (List.replicate (k + 1) a) = [a] := by
  have key : ∀ k, (List.replicate k a).foldl (fun (b : List α) x => if x ∈ b then b else b ++ [x]) [a] = [a] := fun k => by
    induction k with
    | zero => rfl
    | succ k ih =>
      rw [List.replicate_succ, List.foldl_cons, if_pos (by simp)]
      exact ih
  intro k
  unfold firsts
  rw [List.replicate_succ, List.foldl_cons, if_neg (by simp)]
  exact key k
theorem intsD_map : ∀ l : List Int, intsD (l.map D.int) = some l
  | [] => rfl
  | a :: l => by rw [List.map_cons, intsD, intsD_map l]; rfl
theorem rdY_refI {n0 n k : Nat} {st : Sto} {ds ds' : List D} (hn : n0 ≤ n) (h : st[n]? = some (.lst ds)) (h2 : mapO (rdY n0 st k) ds = some ds') : rdY n0 st (k+1) (.ref n) = some (.lst ds') := by
  have e : Nat.ble n0 n = true := Nat.ble_eq_true_of_le hn
  rw [rdY]
  simp only [D.pure, h, h2, e]
  rfl
theorem rdY_tupI {n0 k : Nat} {st : Sto} {ds ds' : List D} (h2 : mapO (rdY n0 st k) ds = some ds') : rdY n0 st (k+1) (.tup ds) = some (.tup ds') := by
  rw [rdY]
  cases hp : pures ds with
  | true =>
    rw [mapO_rdY hp] at h2
    cases h2
    simp [hp]
  | false =>
    simp only [pure_tup, hp, h2]
    rfl
theorem fin_rd {n0 : Nat} {own : Bool} {st : Sto} {ds ds' : List D} (h : mapO (rdY n0 st 11) ds = some ds') : fin n0 own (.tup ds) st = .ok (.tup ds') (st.take n0) := by
  unfold fin
  cases hp : pures ds with
  | true =>
    rw [mapO_rdY hp] at h
    cases h
    simp [hp]
  | false =>
    simp only [pure_tup, hp, cond_false, deep, rdY_tupI h]
theorem back_ok (n : Nat) (st : Sto) {m r Q R : Nat} (h1 : 1 ≤ m) (hr : r < m) (hm : m ≤ 16) (hQ : Q ≤ 1000) (hQ0 : 1 ≤ Q) : go prog (n+3) (.fn 24) [.int m, .tup (pcs (unitL m r) R Q)] st = .ok (.tup [.int r, .lst (flags R Q)]) st := by
  obtain ⟨x, y, e⟩ := back_loop (n+2) st .no (R := R) .no hr hm (show Q ≤ 5000 by omega) many 0 .no .no (by unfold many; omega) (by omega)
  have q1 := ptsize_ok n st h1 (by omega)
  have dk := dictW_ok (st ++ [Cell.lst [], .lst []]) (fun r => .tup (unitL m r)) (fun r => .int (r : Nat)) (List.range m) (keysU_nodup m) (fun r _ => unit_tkey m r) (by simp; omega)
  have f2 : fit 2 = true := rfl
  have cm : compE (cx (n+2) st.length) (.tup (.cons (.call 20 (.cons (.var 0) (.cons (.var 9) .nil))) (.cons (.var 9) .nil))) (.name 9) [.int m, .tup (pcs (unitL m r) R Q), .no, .int (uw m : Nat), .int 0, .ref st.length, .ref (st.length + 1), .no, .no, .no] (.its ((List.range m).map fun i => .int (i : Nat))) (st ++ [Cell.lst [], .lst []]) = .ok ((List.range m).map fun r => .tup [.tup (unitL m r), .int (r : Nat)]) (st ++ [Cell.lst [], .lst []]) := by
    rw [compE_all fun d => match d with
      | .int i => .tup [.tup (unitL m i.toNat), .int i]
      | _ => .no]
    · simp
    · intro d hd
      obtain ⟨i, hi, rfl⟩ := List.mem_map.mp hd
      have hi2 : i < m := List.mem_range.mp hi
      have := ptunit_ok n (st ++ [Cell.lst [], .lst []]) (r := i) h1 (by omega) (by omega)
      refine ⟨_, by simp; rfl, ?_⟩
      simp [this, f2]
  have r0 := rng1 (m := m) (by omega)
  obtain ⟨k, rfl⟩ : ∃ k, Q = k + 1 := ⟨Q - 1, by omega⟩
  have li := litems_ref (st ++ [Cell.lst (List.replicate (k+1) (D.int (r : Nat))), .lst (flags R (k+1))]) (n := st.length) (ds := List.replicate (k+1) (D.int (r : Nat))) (by simp)
  have ls : lenSetD (st ++ [Cell.lst (List.replicate (k+1) (D.int (r : Nat))), .lst (flags R (k+1))]) (.ref st.length) = .ok (.int 1) (st ++ [Cell.lst (List.replicate (k+1) (D.int (r : Nat))), .lst (flags R (k+1))]) := by
    unfold lenSetD
    simp only [li]
    rw [show List.replicate (k+1) (D.int (r : Nat)) = (List.replicate (k+1) (r : Int)).map D.int from by simp, intsD_map]
    dsimp only
    rw [firsts_rep]
    have : decide ((List.replicate (k+1) (r : Int)).length ≤ 4000) = true := by simp; omega
    rw [this]
    rfl
  have ix0 := ix_ref (st ++ [Cell.lst (List.replicate (k+1) (D.int (r : Nat))), .lst (flags R (k+1))]) (n := st.length) (ds := List.replicate (k+1) (D.int (r : Nat))) (by simp) 0
  have hfl : pures (flags R (k+1)) = true := pures_iff.mpr fun d hd => by
    obtain ⟨g, _, rfl⟩ := List.mem_map.mp hd
    exact pure_bl _
  have hfin : fin st.length false (.tup [.int (r : Nat), .ref (st.length + 1)]) (st ++ [Cell.lst (List.replicate (k+1) (D.int (r : Nat))), .lst (flags R (k+1))]) = .ok (.tup [.int (r : Nat), .lst (flags R (k+1))]) st := by
    rw [fin_rd (mapO_two (rdY_pure (pure_int _)) (rdY_refI (ds := flags R (k+1)) (by omega) (by simp) (mapO_rdY hfl)))]
    simp
  simp only [backW, F24, Ss.at, S.wT, S.wB] at e
  rw [go_fn (d := F24) rfl rfl]
  simp only [F24, evSs_cons]
  simp [q1, r0, cm, dk]
  rw [show (((pcs (unitL m r) R 0).length : Nat) : Int) = 0 from rfl] at e
  rw [show flags R 0 = [] from rfl] at e
  generalize flags R (k+1) = F at *
  simp only [keysU, valsU, List.replicate_zero] at e
  rw [e]
  simp [ls, ix0, f2]
  exact hfin
end Ev

end
section
set_option linter.all false
set_option maxRecDepth 100000
set_option autoImplicit false
/-! S11: all units right. -/
namespace Ev
open PySem L2
mutual
theorem eqv_pd_refl : ∀ d : D, PyData.eqv (pd d) (pd d) = true
  | .non => by simp [pd, PyData.eqv]
  | .bl b => by simp [pd, PyData.eqv]
  | .int i => by simp [pd, PyData.eqv]
  | .str x => by simp [pd, PyData.eqv]
  | .tup ds => by simp [pd, PyData.eqv, eqv_pds_refl ds]
  | .lst ds => by simp [pd, PyData.eqv, eqv_pds_refl ds]
  | .scr ds => by simp [pd, PyData.eqv, eqv_pds_refl ds]
  | .no => by simp [pd, PyData.eqv]
  | .set _ => by simp [pd, PyData.eqv]
  | .dic _ _ => by simp [pd, PyData.eqv]
  | .ref _ => by simp [pd, PyData.eqv]
  | .lam _ _ => by simp [pd, PyData.eqv]
  | .fn _ => by simp [pd, PyData.eqv]
  | .ty _ => by simp [pd, PyData.eqv]
theorem eqv_pds_refl : ∀ ds : List D, PyData.eqvAll (pds ds) (pds ds) = true
  | [] => by simp [pds, PyData.eqvAll]
  | d :: r => by simp [pds, PyData.eqvAll, eqv_pd_refl d, eqv_pds_refl r]
end
theorem eqv_refl (d : D) : eqv d d = true := eqv_pd_refl d
theorem cmp_ne_same {st : Sto} {d : D} (hf : fl 12 d = true) (hn : ∀ i, d ≠ .int i) : cmpD st .ne d d = .ok (.bl false) st := by
  have h1 : rd st deep d = some d := rd_pure (fl_pure _ _ hf)
  have h2 : fl deep d = true := hf
  cases d <;> first | (exact absurd rfl (hn _)) | (unfold cmpD; simp only [h1, h2, dcmp, eqv_refl]; rfl)
theorem atI_last {α : Type} (xs : List α) (a : α) : atI (xs ++ [a]) (-1) = some a := by
  unfold atI ixN
  rw [if_neg (by omega), if_pos (by simp; omega)]
  simp only [Option.bind_some]
  rw [show (-1 + (((xs ++ [a]).length : Nat) : Int)).toNat = xs.length from by simp; omega]
  simp
theorem firstsW_nodup {α : Type} [DecidableEq α] : ∀ {l : List α}, l.Nodup → firsts l = l := by
  have key : ∀ (l acc : List α), (acc ++ l).Nodup → l.foldl (fun (b : List α) x => if x ∈ b then b else b ++ [x]) acc = acc ++ l := fun l => by
    induction l with
    | nil => intro acc _; simp
    | cons a l ih =>
      intro acc h
      have h1 : a ∉ acc := fun q => (List.nodup_append.mp h).2.2 _ q _ List.mem_cons_self rfl
      rw [List.foldl_cons, if_neg h1, ih (acc ++ [a]) (by simpa using h)]
      simp
  intro l h
  exact key l [] (by simpa using h)
theorem unit_last (m r : Nat) : ∃ l, unitL m r = l ++ [nD 0] := by
  have key : ∀ x : List Nat, ∃ l, hd5 ++ x.flatMap uf = l ++ [nD 0] := fun x => by
    rcases List.eq_nil_or_concat x with rfl | ⟨y, z, rfl⟩
    · exact ⟨[nD 1, nD 1, nD 1, nD 1], rfl⟩
    · exact ⟨hd5 ++ y.flatMap uf ++ [nD z], by simp [uf]⟩
  exact key _
theorem unit_fl (m r : Nat) : (unitL m r).all (fl 0) = true := by
  rw [unitL_map]
  apply List.all_eq_true.mpr
  intro d hd
  obtain ⟨x, _, rfl⟩ := List.mem_map.mp hd
  rfl
theorem unit_fl1 (m r : Nat) : fl 1 (.tup (unitL m r)) = true := unit_fl m r
theorem szs_flat : ∀ (l : List Nat), szs (l.map nD) = l.length
  | [] => rfl
  | a :: l => by simp [szs, szs_flat l, nD, sz]; omega
theorem szs_map {α : Type} (f : α → D) (k : Nat) (h : ∀ a, sz (f a) = k) : ∀ l : List α, szs (l.map f) = l.length * k
  | [] => by simp [szs]
  | a :: l => by simp [szs, szs_map f k h l, h, Nat.succ_mul]; omega
theorem unit_sz (m r : Nat) : sz (.tup (unitL m r)) = 1 + uw m := by
  rw [sz, unitL_map, szs_flat, ← unitL_len m r, unitL_map, List.length_map]
theorem tups_units (m : Nat) : ∀ l : List Nat, tupsD (l.map fun r => .tup (unitL m r)) = some (l.map fun r => (unitN m r).map fun i : Nat => (i : Int))
  | [] => rfl
  | a :: l => by
    rw [List.map_cons, tupsD, tups_units m l, unitL_map, show (unitN m a).map nD = ((unitN m a).map fun i : Nat => (i : Int)).map D.int from by simp [nD], intsD_map]
    rfl
theorem unitN_inj {m a b : Nat} (ha : a < m) (hb : b < m) (h : ((unitN m a).map fun i : Nat => (i : Int)) = (unitN m b).map fun i : Nat => (i : Int)) : a = b := by
  have h2 : unitN m a = unitN m b := List.map_inj_right (fun x y e => by have e2 : (x : Int) = (y : Int) := e; omega) |>.mp h
  unfold unitN at h2
  exact nk_dg _ _ _ (dbl_inj _ _ (List.append_cancel_left h2)) (lt_two_ld ha) (lt_two_ld hb)
theorem lenset_units (st : Sto) {m : Nat} (h1 : 1 ≤ m) (hm : m ≤ 16) : lenSetD st (.lst (keysU m)) = .ok (.int m) st := by
  obtain ⟨k, rfl⟩ : ∃ k, m = k + 1 := ⟨m - 1, by omega⟩
  have e1 : intsD (keysU (k+1)) = none := by
    unfold keysU
    rw [List.range_succ_eq_map, List.map_cons]
    rfl
  have e2 : decide (((List.range (k+1)).map fun r => (unitN (k+1) r).map fun i : Nat => (i : Int)).length < 64) = true := by simp; omega
  have e3 : ((List.range (k+1)).map fun r => (unitN (k+1) r).map fun i : Nat => (i : Int)).Nodup := List.pairwise_map.mpr (List.Pairwise.imp_of_mem (fun ha hb hne e => hne (unitN_inj (List.mem_range.mp ha) (List.mem_range.mp hb) e)) (List.nodup_range (n := k+1)))
  unfold keysU at e1
  unfold lenSetD keysU
  simp only [litems, e1, tups_units, e2, cond_true, firstsW_nodup e3]
  simp
end Ev

end
section
set_option linter.all false
set_option maxRecDepth 100000
set_option autoImplicit false
/-! S12: _law_units_right. -/
namespace Ev
open PySem L2
theorem szs_keysU {m : Nat} (hm : m ≤ 16) : szs (keysU m) ≤ 1000 := by
  have := uw16 hm
  unfold keysU
  rw [szs_map (fun r => .tup (unitL m r)) (1 + uw m) (unit_sz m)]
  have := Nat.mul_le_mul (show (List.range m).length ≤ 16 from by simp; omega) (show 1 + uw m ≤ 14 from by omega)
  omega
theorem keysU_fl (m : Nat) : (keysU m).all (fl 1) = true := by
  apply List.all_eq_true.mpr
  intro d hd
  obtain ⟨r, _, rfl⟩ := List.mem_map.mp hd
  exact unit_fl1 m r
theorem unit_head5 (m r : Nat) : cutD (unitL m r) none (some 5) = hd5 := by
  have := cut_to (unitL m r) 5
  rw [show ((5 : Nat) : Int) = 5 from rfl] at this
  rw [this]
  rfl
theorem units_right (n : Nat) (st : Sto) {m : Nat} (h1 : 1 ≤ m) (hm : m ≤ 16) : go prog (n+6) (.fn 25) [.int m] st = .ok (.bl true) st := by
  have q1 := ptsize_ok (n+3) st h1 (show m < 1000000 by omega)
  have q2 := loudsize_ok (n+1) st h1 hm
  have q3 := same_ok (n+3) st (d := .int (uw m : Nat)) rfl (by simp [sz])
  have q4 := same_ok (n+3) st (d := .lst (keysU m)) (fl_le (show 2 ≤ 9 by omega) (keysU_fl m)) (by have := szs_keysU hm; simp [sz]; omega)
  have q5 := lenset_units st h1 hm
  have r0 := rng1 (m := m) (by omega)
  have c1 : compE (cx (n+5) st.length) (.call 10 (.cons (.var 0) (.cons (.var 3) .nil))) (.name 3) [.int m, .int (uw m : Nat), .no, .no, .no] (.its ((List.range m).map fun i => .int (i : Nat))) st = .ok (keysU m) st := by
    rw [compE_all fun d => match d with
      | .int i => .tup (unitL m i.toNat)
      | _ => .no]
    · simp [keysU]
    · intro d hd
      obtain ⟨i, hi, rfl⟩ := List.mem_map.mp hd
      have := loudunit_ok n st h1 hm (List.mem_range.mp hi)
      exact ⟨_, by simp; rfl, by simp [this]⟩
  have c2 : compE (cx (n+5) st.length) (.call 20 (.cons (.var 0) (.cons (.var 3) .nil))) (.name 3) [.int m, .int (uw m : Nat), .lst (keysU m), .no, .no] (.its ((List.range m).map fun i => .int (i : Nat))) st = .ok (keysU m) st := by
    rw [compE_all fun d => match d with
      | .int i => .tup (unitL m i.toNat)
      | _ => .no]
    · simp [keysU]
    · intro d hd
      obtain ⟨i, hi, rfl⟩ := List.mem_map.mp hd
      have := ptunit_ok (n+3) st h1 (show m < 1000000 by omega) (show i < 1000000 by have := List.mem_range.mp hi; omega)
      exact ⟨_, by simp; rfl, by simp [this]⟩
  have f5 : fit 5 = true := rfl
  have hh := cmp_ne_same (st := st) (d := .tup hd5) rfl (by simp)
  have c3 : compTE (cx (n+5) st.length) (.or (.of (.cmp .ne (.bi .len (.cons (.var 4) .nil)) (.var 1))) (.or (.of (.cmp .ne (.sl (.var 4) (.con .no) (.con (.int 5))) (.tup (.cons (.con (.int 1)) (.cons (.con (.int 1)) (.cons (.con (.int 1)) (.cons (.con (.int 1)) (.cons (.con (.int 0)) .nil)))))))) (.of (.cmp .ne (.ix (.var 4) (.neg (.con (.int 1)))) (.con (.int 0)))))) (.var 4) (.name 4) [.int m, .int (uw m : Nat), .lst (keysU m), .no, .no] (.its (keysU m)) st = .ok [] st := by
    rw [compTE_map (fun _ => false) id]
    · simp
    · intro d hd
      obtain ⟨r, hr, rfl⟩ := List.mem_map.mp hd
      obtain ⟨l, hl⟩ := unit_last m r
      have hla : atI (unitL m r) (-1) = some (nD 0) := by rw [hl]; exact atI_last l _
      refine ⟨_, by simp; rfl, ?_, by simp⟩
      rw [show (.tup hd5 : D) = .tup [.int 1, .int 1, .int 1, .int 1, .int 0] from rfl] at hh
      simp [unitL_len, unit_head5, f5, hh, hla, nD]
      rw [show (.tup hd5 : D) = .tup [.int 1, .int 1, .int 1, .int 1, .int 0] from rfl]
      simp [hh, hla, nD]
  rw [go_fn (d := F25) rfl rfl]
  have n0 : cmpD st .ne (.lst []) (.lst []) = .ok (.bl false) st := cmp_ne_lst rfl
  simp [F25, q1, q2, q3, r0, c1]
  simp [c2, q4, c3, n0, q5, fin_pure]
end Ev

end
section
set_option linter.all false
set_option maxRecDepth 100000
set_option autoImplicit false
/-! S13: _law_stretches_right. -/
namespace Ev
open PySem L2
/-- the jar at k is changed, no more -/
def JarTo (k : Nat) (st st' : Sto) : Prop := ∃ ab, JarOk ab ∧ st' = st.set k (jar ab)
theorem JarTo.at_ {k : Nat} {st st' : Sto} (h : JarTo k st st') (h0 : JarAt st k) : JarAt st' k := by
  obtain ⟨ab, hj, rfl⟩ := h
  exact jarAt_set h0 hj
theorem JarTo.trans {k : Nat} {st st' st'' : Sto} (h : JarTo k st st') (h2 : JarTo k st' st'') : JarTo k st st'' := by
  obtain ⟨ab, hj, rfl⟩ := h
  obtain ⟨cd, hj2, rfl⟩ := h2
  exact ⟨cd, hj2, by simp⟩
theorem JarTo.refl {k : Nat} {st : Sto} (h : JarAt st k) : JarTo k st st := by
  obtain ⟨ab, h1, hj⟩ := h
  refine ⟨ab, hj, ?_⟩
  apply List.ext_getElem?
  intro i
  by_cases e : i = k
  · subst e
    have hl : i < st.length := by
      rcases Nat.lt_or_ge i st.length with z | z
      · exact z
      · rw [List.getElem?_eq_none z] at h1
        cases h1
    rw [List.getElem?_set_self hl]
    exact h1
  · rw [List.getElem?_set_ne (by omega)]
theorem JarTo.len {k : Nat} {st st' : Sto} (h : JarTo k st st') : st'.length = st.length := by
  obtain ⟨ab, hj, rfl⟩ := h
  simp
theorem take_to (n : Nat) {st : Sto} {k : Nat} {t : Int} (hk : JarAt st k) (ht : 0 < t) (h2 : t < 1073741824) : ∃ (d : Nat) (st' : Sto), go prog (n+1) (.fn 13) [.ref k, .int t] st = .ok (.int d) st' ∧ (d : Int) < t ∧ JarTo k st st' ∧ JarAt st' k := by
  obtain ⟨d, ab, e, d0, d1, hj⟩ := take_ok n hk ht h2
  obtain ⟨m, rfl⟩ := Int.eq_ofNat_of_zero_le d0
  exact ⟨m, _, e, d1, ⟨ab, hj, rfl⟩, jarAt_set hk hj⟩
theorem flags_len (R j : Nat) : (flags R j).length = j := by simp [flags]
theorem flags_count (R : Nat) : ∀ Q, R < Q → ((flags R Q).filter fun d => match d with
    | .bl b => b
    | _ => false).length = R := by
  intro Q h
  have key : ∀ Q, ((flags R Q).filter fun d => match d with
    | .bl b => b
    | _ => false).length = min (Q - 1) R := fun Q => by
    induction Q with
    | zero => simp [flags]
    | succ Q ih =>
      rw [flags_succ, List.filter_append, List.length_append, ih]
      by_cases c : 1 ≤ Q ∧ Q ≤ R
      · simp [c]
        omega
      · simp [c]
        omega
  rw [key]
  omega
theorem rp_mem {d : D} {u : List D} {k : Nat} (h : d ∈ rp k u) : d ∈ u := by
  obtain ⟨l, hl, hd⟩ := List.mem_flatten.mp h
  rw [(List.mem_replicate.mp hl).2] at hd
  exact hd
theorem strL_mem {d : D} {u : List D} {size : Nat} (h : d ∈ strL u size) : d ∈ u ∨ d = nD 0 := by
  unfold strL at h
  rcases List.mem_append.mp h with h | h
  · rcases List.mem_append.mp h with h | h
    · exact .inl h
    · have := rp_mem h
      simpa using this
  · exact .inl (rp_mem h)
theorem unit_mem {d : D} {m r : Nat} (h : d ∈ unitL m r) : ∃ x : Nat, d = nD x := by
  rw [unitL_map] at h
  obtain ⟨x, _, rfl⟩ := List.mem_map.mp h
  exact ⟨x, rfl⟩
theorem str_mem {d : D} {m r size : Nat} (h : d ∈ strL (unitL m r) size) : ∃ x : Nat, d = nD x := by
  rcases strL_mem h with h | h
  · exact unit_mem h
  · exact ⟨0, h⟩
theorem szs_ones : ∀ {l : List D}, (∀ d ∈ l, sz d = 1) → szs l = l.length
  | [], _ => rfl
  | d :: r, h => by
    rw [szs, h d List.mem_cons_self, szs_ones fun e he => h e (List.mem_cons_of_mem _ he)]
    simp
    omega
theorem stretch_turn (n : Nat) (st : Sto) {k m size : Nat} (x y z w : D) (h1 : 1 ≤ m) (hm : m ≤ 16) (hs : uw m * (uw m + 1) ≤ size) (hs2 : size ≤ 5000) (hj : JarAt st k) :
    ∃ x' y' z' st', evSs (cx (n+6) st.length) prog.sub (F26.body.at 2).wB [.ref k, .int m, .int (uw m : Nat), .int (uw m * (uw m + 1) : Nat), .int size, x, y, z, w] st =
      .nx [.ref k, .int m, .int (uw m : Nat), .int (uw m * (uw m + 1) : Nat), .int size, x', y', z', w] st' ∧ JarTo k st st' := by
  obtain ⟨r, st', e, hr, hto, hat⟩ := take_to (n+5) hj (t := m) (by omega) (by omega)
  have hr' : r < m := by omega
  have hl := unitL_len m r
  have hw := uw_pos m
  have hu := uw16 hm
  have hmore := more_lt (w := uw m) (by omega) hs
  have hmore2 : size % uw m + 1 < size / uw m := by
    have h1 := Nat.mod_lt size (show 0 < uw m by omega)
    have h2 : uw m + 1 ≤ size / uw m := (Nat.le_div_iff_mul_le (by omega)).mpr (by rw [Nat.mul_comm]; exact hs)
    omega
  have q1 := loudstretch_ok (n+1) st' h1 hm hr' hs hs2
  have q2 := ptstretch_ok (n+3) st' h1 hm (show r < 1000000 by omega) hs hs2
  have hpc := pcs_strL (u := unitL m r) (size := size) (by rw [hl]; exact hmore)
  have hsl := strL_len (u := unitL m r) (size := size) (by omega) (by rw [hl]; exact hmore)
  rw [hl] at hpc
  have hQ : size / uw m ≤ 1000 := by
    have := Nat.div_le_div_left (show 5 ≤ uw m from hw) (by omega) (a := size)
    have : size / 5 ≤ 1000 := by omega
    omega
  have q3 := back_ok (n+3) st' (m := m) (r := r) (Q := size / uw m) (R := size % uw m) h1 hr' hm hQ (by omega)
  rw [hpc] at q3
  have hfl : fl 1 (.tup (strL (unitL m r) size)) = true := by
    show (strL (unitL m r) size).all (fl 0) = true
    apply List.all_eq_true.mpr
    intro d hd
    obtain ⟨x, rfl⟩ := str_mem hd
    rfl
  have hsz : sz (.tup (strL (unitL m r) size)) ≤ 900000 := by
    rw [sz, szs_ones fun d hd => by obtain ⟨x, rfl⟩ := str_mem hd; rfl, hsl]
    omega
  have q4 := same_ok (n+4) st' (fl_le (show 1 ≤ 9 by omega) hfl) hsz
  refine ⟨.int r, .tup (strL (unitL m r) size), .tup [.int r, .lst (flags (size % uw m) (size / uw m))], st', ?_, hto⟩
  have f0 : ∃ F, flags (size % uw m) (size / uw m) = .bl false :: F := by
    obtain ⟨k, hk⟩ : ∃ k, size / uw m = k + 1 := ⟨size / uw m - 1, by omega⟩
    rw [hk]
    unfold flags
    rw [List.range_succ_eq_map, List.map_cons]
    exact ⟨_, rfl⟩
  have fl : ∃ F, flags (size % uw m) (size / uw m) = F ++ [.bl false] := by
    obtain ⟨k, hk⟩ : ∃ k, size / uw m = k + 1 := ⟨size / uw m - 1, by omega⟩
    rw [hk, flags_succ, show decide (1 ≤ k ∧ k ≤ size % uw m) = false from decide_eq_false (by omega)]
    exact ⟨_, rfl⟩
  have g0 : (flags (size % uw m) (size / uw m))[0]? = some (.bl false) := by
    obtain ⟨F, h⟩ := f0
    rw [h]
    rfl
  have gl : atI (flags (size % uw m) (size / uw m)) (-1) = some (.bl false) := by
    obtain ⟨F, h⟩ := fl
    rw [h]
    exact atI_last _ _
  have fmem : ∀ d ∈ flags (size % uw m) (size / uw m), ∃ b, d = .bl b := fun d hd => by
    obtain ⟨g, _, rfl⟩ := List.mem_map.mp hd
    exact ⟨_, rfl⟩
  have flen := flags_len (size % uw m) (size / uw m)
  have fct := flags_count (size % uw m) (size / uw m) hmore
  generalize strL (unitL m r) size = C at *
  have e0 : ((uw m : Nat) : Int) ≠ 0 := by omega
  have e2 : ((uw m : Nat) : Int).natAbs < 1073741824 := by omega
  have a1 : arith .fdiv (size : Int) ((uw m : Nat) : Int) = some ((size / uw m : Nat) : Int) := by rw [ar_fdiv e0 e2, fdiv_nat]
  have a2 : arith .mod (size : Int) ((uw m : Nat) : Int) = some ((size % uw m : Nat) : Int) := by rw [ar_mod e0, fmod_nat]
  generalize ((uw m * (uw m + 1) : Nat) : Int) = L at *
  generalize flags (size % uw m) (size / uw m) = F at *
  generalize size / uw m = Q at *
  generalize size % uw m = R at *
  have cte : compTE (cx (n+6) st.length) (.of (.var 8)) (.var 8) (.name 8) [.ref k, .int m, .int (uw m : Nat), .int L, .int size, .int r, .tup C, .tup [.int r, .lst F], .no] (.its F) st' = .ok (F.filter fun d => match d with
    | .bl b => b
    | _ => false) st' := by
    rw [compTE_map (fun d => match d with
      | .bl b => b
      | _ => false) id]
    · simp
    · intro d hd
      obtain ⟨b, rfl⟩ := fmem d hd
      exact ⟨_, by simp; rfl, by simp, fun _ => by simp⟩
  simp [F26, Ss.at, S.wB, e, q1, q2, q4, hsl, q3, g0, gl, a1, a2, flen, cte, fct]
end Ev

end
section
set_option linter.all false
set_option maxRecDepth 100000
set_option autoImplicit false
/-! S14: _law_stretches_right, whole. -/
namespace Ev
open PySem L2
theorem stretches_right (n : Nat) (st : Sto) {k m : Nat} (h1 : 1 ≤ m) (hm : m ≤ 16) (hj : JarAt st k) : ∃ st', go prog (n+7) (.fn 26) [.ref k, .int m] st = .ok (.bl true) st' ∧ JarTo k st st' := by
  have hw := uw_pos m
  have hu := uw16 hm
  have hL : uw m * (uw m + 1) ≤ 13 * 14 := Nat.mul_le_mul hu (by omega)
  have q1 := ptsize_ok (n+4) st h1 (show m < 1000000 by omega)
  have hs : small ((uw m : Nat) : Int) = true := small_of (by omega) (by omega)
  have e0 : ((uw m : Nat) : Int) * (((uw m : Nat) : Int) + 1) = ((uw m * (uw m + 1) : Nat) : Int) := by simp
  obtain ⟨a, st1, t1, a1, to1, at1⟩ := take_to (n+5) hj (t := 3 * (uw m : Nat)) (by omega) (by omega)
  obtain ⟨b, st2, t2, b1, to2, at2⟩ := take_to (n+5) at1 (t := 5001 - ((uw m * (uw m + 1) : Nat) : Int)) (by omega) (by omega)
  have len2 : st2.length = st.length := by rw [to2.len, to1.len]
  have loop := forI_inv (p := .name 4) (tb := evSs (cx (n+6) st.length) prog.sub (F26.body.at 2).wB) (fun i env st' => ∃ x y z s w, env = [.ref k, .int m, .int (uw m : Nat), .int (uw m * (uw m + 1) : Nat), s, x, y, z, w] ∧ JarTo k st2 st' ∧ JarAt st' k)
    [.int (uw m * (uw m + 1) : Nat), .int (uw m * (uw m + 1) + 1 : Nat), .int (uw m * (uw m + 1) + a : Nat), .int (uw m * (uw m + 1) + b : Nat), .int (5000 : Nat)] 0 [.ref k, .int m, .int (uw m : Nat), .int (uw m * (uw m + 1) : Nat), .no, .no, .no, .no, .no] st2 ⟨.no, .no, .no, .no, .no, rfl, JarTo.refl at2, at2⟩ (by
      rintro i d env st' hd ⟨x, y, z, s, w, rfl, hto, hat⟩
      have hd2 : ∃ size : Nat, d = .int size ∧ uw m * (uw m + 1) ≤ size ∧ size ≤ 5000 := by
        have := List.mem_of_getElem? hd
        simp only [List.mem_cons, List.mem_nil_iff, or_false] at this
        rcases this with rfl | rfl | rfl | rfl | rfl
        · exact ⟨_, rfl, by omega, by omega⟩
        · exact ⟨_, rfl, by omega, by omega⟩
        · exact ⟨_, rfl, by omega, by omega⟩
        · exact ⟨_, rfl, by omega, by omega⟩
        · exact ⟨_, rfl, by omega, by omega⟩
      obtain ⟨size, rfl, s1, s2⟩ := hd2
      have hl : st'.length = st.length := by rw [hto.len, len2]
      obtain ⟨x', y', z', st3, e, to3⟩ := stretch_turn n st' (k := k) (m := m) (size := size) x y z w h1 hm s1 s2 hat
      rw [hl] at e
      exact ⟨_, _, _, by simp, e, x', y', z', _, w, rfl, hto.trans to3, to3.at_ hat⟩)
  obtain ⟨env', st', e, x, y, z, s, w, rfl, to3, at3⟩ := loop
  refine ⟨st', ?_, to1.trans (to2.trans to3)⟩
  simp only [F26, Ss.at, S.wB] at e
  rw [go_fn (d := F26) rfl rfl]
  have f5 : fit 5 = true := rfl
  have hlen : st'.length = st.length := by rw [to3.len, len2]
  have htk : st'.take st.length = st' := by rw [← hlen]; exact List.take_length
  simp only [Int.natCast_add, Int.cast_ofNat_Int, show ((1 : Nat) : Int) = 1 from rfl] at e
  simp [F26, q1, ar_mulL, hs, e0, -Int.natCast_mul, -Int.natCast_add, show small 3 = true from rfl, t1, t2, f5]
  rw [e]
  simp [fin_pure, htk]
end Ev

end
section
set_option linter.all false
set_option maxRecDepth 100000
set_option autoImplicit false
/-! S15: what is refused. -/
namespace Ev
open PySem L2
/-! ### closures -/
def doneL (n0 : Nat) : Rz D → Rz D
  | .ok v st' => fin n0 false v st'
  | .er k w st' => bif w.pure then .er k w (st'.take n0) else .no
  | .no => .no
@[simp] theorem doneL_ok (n0 : Nat) (v : D) (st' : Sto) : doneL n0 (.ok v st') = fin n0 false v st' := (rfl)
@[simp] theorem doneL_er (n0 k : Nat) (w : D) (st' : Sto) : doneL n0 (.er k w st') = pick w.pure (fun _ => .er k w (st'.take n0)) fun _ => .no := cond_pick _ _ _
theorem go_lam {n k : Nat} {cap : List D} {e : E} {st : Sto} (h : prog.lams k = some ([], e)) : go prog (n+1) (.lam k cap) [] st = doneL st.length (evE (cx n st.length) e cap st) := by
  rw [go, h]
  dsimp only [runLam, sets]
  cases evE (cx n st.length) e cap st <;> rfl
theorem caught_ok {hs : List (Nat × Hd)} {c : Nat} {w d : D} {env : List D} {st : Sto} (hc : clsL.contains c = true) (h : caught prog.sub c w hs = some d) : tryF prog.sub hs (.er c w env st) = .rt d st := by
  unfold tryF
  dsimp only
  rw [sub_self hc, h]
  rfl
theorem caught_no {hs : List (Nat × Hd)} {c : Nat} {w : D} {env : List D} {st : Sto} (hc : clsL.contains c = true) (h : caught prog.sub c w hs = none) : tryF prog.sub hs (.er c w env st) = .er c w env st := by
  unfold tryF
  dsimp only
  rw [sub_self hc, h]
  rfl
def S.hs : S → List (Nat × Hd)
  | .try _ hs => hs
  | _ => []
theorem heard_er (n : Nat) {st : Sto} {k : Nat} {cap : List D} {c : Nat} {w d : D} (h : go prog n (.lam k cap) [] st = .er c w st) (hc : clsL.contains c = true) (hd : caught prog.sub c w (F22.body.at 0).hs = some d) (hp : d.pure = true) : go prog (n+1) (.fn 22) [.lam k cap] st = .ok d st := by
  rw [go_fn (d := F22) rfl rfl]
  simp only [F22, Ss.at, S.hs] at hd
  simp [F22, h, caught_ok hc hd, fin_pure, hp]
theorem heard_out (n : Nat) {st : Sto} {k : Nat} {cap : List D} {c : Nat} {w : D} (h : go prog n (.lam k cap) [] st = .er c w st) (hc : clsL.contains c = true) (hd : caught prog.sub c w (F22.body.at 0).hs = none) (hp : w.pure = true) : go prog (n+1) (.fn 22) [.lam k cap] st = .er c w st := by
  rw [go_fn (d := F22) rfl rfl]
  simp only [F22, Ss.at, S.hs] at hd
  simp [F22, h, caught_no hc hd, hp]
theorem line_heard (n : Nat) {st : Sto} {k : Nat} {cap : List D} {d : D} (h : go prog n (.fn 22) [.lam k cap] st = .ok d st) (hp : d.pure = true) : go prog (n+1) (.fn 23) [.lam k cap] st = .ok d st := by
  rw [go_fn (d := F23) rfl rfl]
  simp [F23, h, fin_pure, hp]
theorem line_er (n : Nat) {st : Sto} {k : Nat} {cap : List D} {c : Nat} {w d : D} (h : go prog n (.fn 22) [.lam k cap] st = .er c w st) (hc : clsL.contains c = true) (hd : caught prog.sub c w (F23.body.at 0).hs = some d) (hp : d.pure = true) : go prog (n+1) (.fn 23) [.lam k cap] st = .ok d st := by
  rw [go_fn (d := F23) rfl rfl]
  simp only [F23, Ss.at, S.hs] at hd
  simp [F23, h, caught_ok hc hd, fin_pure, hp]
/-- BadMany is told by the inner list -/
theorem hear_many (n : Nat) {st : Sto} {k : Nat} {cap : List D} (h : go prog n (.lam k cap) [] st = .er 2 (.int 0) st) : go prog (n+2) (.fn 23) [.lam k cap] st = .ok (.tup [.str "BadMany", .int 0]) st :=
  line_heard (n+1) (heard_er n h rfl rfl (by simp)) (by simp)
theorem hear_room (n : Nat) {st : Sto} {k : Nat} {cap : List D} {w : D} (h : go prog n (.lam k cap) [] st = .er 7 w st) (hp : w.pure = true) : go prog (n+2) (.fn 23) [.lam k cap] st = .ok (.tup [.str "BadRoom", w]) st :=
  line_er (n+1) (heard_out n h rfl rfl hp) rfl rfl (by simp [hp])
theorem hear_size (n : Nat) {st : Sto} {k : Nat} {cap : List D} {w : D} (h : go prog n (.lam k cap) [] st = .er 10 w st) (hp : w.pure = true) : go prog (n+2) (.fn 23) [.lam k cap] st = .ok (.tup [.str "BadSize", w]) st :=
  line_er (n+1) (heard_out n h rfl rfl hp) rfl rfl (by simp [hp])
theorem plain_ok {d : D} {st : Sto} (h : d.pure = true) (h2 : stL st = true) : (Rz.ok d st).plain = .ok d st := by
  show (bif d.pure && stL st then Rz.ok d st else .no) = _
  rw [h, h2]
  rfl
/-! ### draws of bad things -/
theorem one_lst (n : Nat) {st : Sto} {k : Nat} {ds : List D} (hk : JarAt st k) (h0 : ds ≠ []) (h1 : ds.length < 1073741824) (hp : pures ds = true) : ∃ (d : D) (st' : Sto), go prog (n+2) (.fn 14) [.ref k, .lst ds] st = .ok d st' ∧ d ∈ ds ∧ JarTo k st st' ∧ JarAt st' k := by
  obtain ⟨d, ab, e, hd, hj⟩ := one_ok n (o := .lst ds) hk (by simp [hp]) (by simp) (by simp) (by simp) h0 h1 hp (fun st i => by simp)
  exact ⟨d, _, e, hd, ⟨ab, hj, rfl⟩, jarAt_set hk hj⟩
theorem stL_app (a b : Sto) : stL (a ++ b) = (stL a && stL b) := by simp [stL]
theorem stL_set {st : Sto} {k : Nat} {ab : Int × Int} (h : stL st = true) : stL (st.set k (jar ab)) = true := by
  unfold stL at *
  rw [List.all_eq_true] at *
  intro c hc
  rcases List.mem_or_eq_of_mem_set hc with h1 | rfl
  · exact h c h1
  · simp [jar, Cell.nolam, nolams, D.nolam]
theorem stL_jarTo {k : Nat} {st st' : Sto} (h : JarTo k st st') (h2 : stL st = true) : stL st' = true := by
  obtain ⟨ab, _, rfl⟩ := h
  exact stL_set h2
theorem no_number (n : Nat) {st : Sto} {k : Nat} (lo hi : Int) (hj : JarAt st k) : ∃ (d : D) (st' : Sto), go prog (n+3) (.fn 17) [.ref k, .int lo, .int hi] st = .ok d st' ∧ d ∈ ([.int (lo - 1), .int (hi + 1), .non, .bl true, .str "1", .tup [.int 1], .lst [], .int (10 ^ 30), .int (-10 ^ 30), .str "", .bl false] : List D) ∧ JarTo k st st' ∧ JarAt st' k := by
  obtain ⟨d, st', e, hd, h1, h2⟩ := one_lst n (ds := [.int (lo - 1), .int (hi + 1), .non, .bl true, .str "1", .tup [.int 1], .lst [], .int (10 ^ 30), .int (-10 ^ 30), .str "", .bl false]) hj (by simp) (by simp) (by simp)
  refine ⟨d, st', ?_, hd, h1, h2⟩
  have pd : d.pure = true := by
    simp only [List.mem_cons, List.mem_nil_iff, or_false] at hd
    rcases hd with rfl | rfl | rfl | rfl | rfl | rfl | rfl | rfl | rfl | rfl | rfl <;> simp
  have a1 : arith .pow 10 30 = some (10^30) := rfl
  have f11 : fit 11 = true := rfl
  rw [go_fn (d := F17) rfl rfl]
  have hl := h1.len
  have htk : st'.take st.length = st' := by rw [← hl]; exact List.take_length
  simp [F17, a1, f11]
  simp at e
  simp [e, fin_pure, pd, htk]
end Ev

end
section
set_option linter.all false
set_option maxRecDepth 100000
set_option autoImplicit false
/-! S16: _law_refused_right, law. -/
namespace Ev
open PySem L2
mutual
theorem pureW_nolam : ∀ d : D, d.pure = true → d.nolam = true
  | .no, _ => by rw [D.nolam] <;> simp
  | .non, _ => by rw [D.nolam] <;> simp
  | .bl _, _ => by rw [D.nolam] <;> simp
  | .int _, _ => by rw [D.nolam] <;> simp
  | .str _, _ => by rw [D.nolam] <;> simp
  | .tup ds, h => by
    rw [D.nolam]
    exact pures_nolam ds (by simpa using h)
  | .lst ds, h => by
    rw [D.nolam]
    exact pures_nolam ds (by simpa using h)
  | .scr ds, h => by
    rw [D.nolam]
    exact pures_nolam ds (by simpa using h)
  | .set ds, h => by
    rw [D.nolam]
    rw [D.pure] at h
    exact pures_nolam ds h
  | .dic ks vs, h => by
    rw [D.pure] at h
    rw [D.nolam, pures_nolam ks (ba h).1, pures_nolam vs (ba h).2]
    rfl
  | .ref _, h => by simp [D.pure] at h
  | .lam _ _, h => by simp [D.pure] at h
  | .fn _, _ => by rw [D.nolam] <;> simp
  | .ty _, _ => by rw [D.nolam] <;> simp
theorem pures_nolam : ∀ ds : List D, pures ds = true → nolams ds = true
  | [], _ => by rw [nolams]
  | d :: r, h => by
    rw [pures_cons] at h
    rw [nolams, pureW_nolam d (ba h).1, pures_nolam r (ba h).2]
    rfl
end
theorem stL_lst {st : Sto} {l : List D} (h : stL st = true) (hp : pures l = true) : stL (st ++ [.lst l]) = true := by
  rw [stL_app, h]
  simp [stL, Cell.nolam, pures_nolam l hp]
def Mx (d : D) : Prop := kd d = true ∧ d.pure = true ∧ fl 2 d = true ∧ sz d ≤ 2
theorem refused_right (n : Nat) (st : Sto) {k m : Nat} (h1 : 1 ≤ m) (hm : m ≤ 16) (hj : JarAt st k) (hL : stL st = true) : ∃ st', go prog (n+10) (.fn 27) [.ref k, .int m] st = .ok (.bl true) st' ∧ JarTo k st st' := by
  have hw := uw_pos m
  have hu := uw16 hm
  have hLL : uw m * (uw m + 1) ≤ 13 * 14 := Nat.mul_le_mul hu (by omega)
  have hL0 : 5 * 6 ≤ uw m * (uw m + 1) := Nat.mul_le_mul hw (by omega)
  have q1 := ptsize_ok (n+7) st h1 (show m < 1000000 by omega)
  have hs : small ((uw m : Nat) : Int) = true := small_of (by omega) (by omega)
  have e0 : ((uw m : Nat) : Int) * (((uw m : Nat) : Int) + 1) = ((uw m * (uw m + 1) : Nat) : Int) := by simp
  obtain ⟨bad, st1, t1, b1, to1, at1⟩ := no_number (n+6) 1 16 hj
  obtain ⟨room, st2, t2, b2, to2, at2⟩ := one_lst (n+7) (ds := [.int (-1), .int m, .non, .bl true, .str "0", .tup [.int 0], .int (10 ^ 30)]) at1 (by simp) (by simp) (by simp)
  obtain ⟨size, st3, t3, b3, to3, at3⟩ := one_lst (n+7) (ds := [.int ((uw m * (uw m + 1) : Nat) - 1), .int 0, .int (-1), .int 5001, .non, .bl true, .str "99", .int (10 ^ 30)]) at2 (by simp) (by simp) (by simp)
  have hl3 : st3.length = st.length := by rw [to3.len, to2.len, to1.len]
  have hst3 : stL st3 = true := stL_jarTo to3 (stL_jarTo to2 (stL_jarTo to1 hL))
  have x1 : Mx bad ∧ bet bad 1 16 = false := by
    simp only [List.mem_cons, List.mem_nil_iff, or_false] at b1
    rcases b1 with rfl | rfl | rfl | rfl | rfl | rfl | rfl | rfl | rfl | rfl | rfl <;> exact ⟨⟨by decide, by simp, by decide, by simp [sz, szs]⟩, by decide⟩
  have x2 : Mx room ∧ bet room 0 ((m : Int) - 1) = false := by
    simp only [List.mem_cons, List.mem_nil_iff, or_false] at b2
    rcases b2 with rfl | rfl | rfl | rfl | rfl | rfl | rfl
    · exact ⟨⟨rfl, by simp, rfl, by simp [sz]⟩, rfl⟩
    · exact ⟨⟨rfl, by simp, rfl, by simp [sz]⟩, by simp [bet]; omega⟩
    · exact ⟨⟨rfl, by simp, rfl, by simp [sz]⟩, rfl⟩
    · exact ⟨⟨rfl, by simp, rfl, by simp [sz]⟩, rfl⟩
    · exact ⟨⟨rfl, by simp, rfl, by simp [sz]⟩, rfl⟩
    · exact ⟨⟨rfl, by simp, rfl, by simp [sz, szs]⟩, rfl⟩
    · exact ⟨⟨rfl, by simp, rfl, by simp [sz]⟩, by simp [bet]; omega⟩
  have x3 : Mx size ∧ bet size (uw m * (uw m + 1) : Nat) 5000 = false := by
    simp only [List.mem_cons, List.mem_nil_iff, or_false] at b3
    generalize uw m * (uw m + 1) = L at *
    rcases b3 with rfl | rfl | rfl | rfl | rfl | rfl | rfl | rfl
    · exact ⟨⟨rfl, by simp, rfl, by simp [sz]⟩, by simp [bet]; omega⟩
    · exact ⟨⟨rfl, by simp, rfl, by simp [sz]⟩, by simp [bet]; omega⟩
    · exact ⟨⟨rfl, by simp, rfl, by simp [sz]⟩, by simp [bet]; omega⟩
    · exact ⟨⟨rfl, by simp, rfl, by simp [sz]⟩, by simp [bet]⟩
    · exact ⟨⟨rfl, by simp, rfl, by simp [sz]⟩, rfl⟩
    · exact ⟨⟨rfl, by simp, rfl, by simp [sz]⟩, rfl⟩
    · exact ⟨⟨rfl, by simp, rfl, by simp [sz]⟩, rfl⟩
    · exact ⟨⟨rfl, by simp, rfl, by simp [sz]⟩, by simp [bet]⟩
  obtain ⟨⟨k1, p1, f1, s1⟩, y1⟩ := x1
  obtain ⟨⟨k2, p2, ff2, s2⟩, y2⟩ := x2
  obtain ⟨⟨k3, p3, ff3, s3⟩, y3⟩ := x3
  have v1 := vr_pure p1
  have v2 := vr_pure p2
  have v3 := vr_pure p3
  clear b1 b2 b3
  let cap : D → List D := fun x => [.ref k, .int m, .int (uw m : Nat), .int (uw m * (uw m + 1) : Nat), size, x, .no, bad, room]
  have c5 : ∀ x s, go prog (n+7) (.lam 5 (cap x)) [] s = .er 2 (.int 0) s := fun x s => by
    rw [go_lam (e := Lm5.2) rfl]
    simp [Lm5, cap, v1, loudsize_bad (n+2) s k1 y1]
  have c4 : ∀ x s, go prog (n+7) (.lam 4 (cap x)) [] s = .er 2 (.int 0) s := fun x s => by
    rw [go_lam (e := Lm4.2) rfl]
    simp [Lm4, cap, v1, v2, loudunit_bad (n+1) s k1 k2 y1]
  have c3 : ∀ x s, go prog (n+7) (.lam 3 (cap x)) [] s = .er 2 (.int 0) s := fun x s => by
    rw [go_lam (e := Lm3.2) rfl]
    simp [Lm3, cap, v1, v2, v3, loudstretch_bad (n+1) s (f := size) k1 k2 y1]
  have c2 : ∀ x s, go prog (n+7) (.lam 2 (cap x)) [] s = .er 7 room s := fun x s => by
    rw [go_lam (e := Lm2.2) rfl]
    simp [Lm2, cap, v2, loudunit_badroom (n+1) s h1 hm k2 p2 y2, p2]
  have c1 : ∀ x s, go prog (n+7) (.lam 1 (cap x)) [] s = .er 7 room s := fun x s => by
    rw [go_lam (e := Lm1.2) rfl]
    simp [Lm1, cap, v2, v3, loudstretch_badroom (n+1) s (e := size) h1 hm k2 p2 p3 y2, p2]
  have c0 : ∀ x s, go prog (n+7) (.lam 0 (cap x)) [] s = .er 10 (.int (uw m * (uw m + 1) : Nat)) s := fun x s => by
    have := loudstretch_badsize (n+1) s (r := m - 1) h1 hm (by omega) k3 p3 y3
    rw [show ((m - 1 : Nat) : Int) = (m : Int) - 1 from by omega] at this
    rw [go_lam (e := Lm0.2) rfl]
    generalize ((uw m * (uw m + 1) : Nat) : Int) = L at *
    simp [Lm0, cap, v3, mapO, this]
  have d5 : ∀ x s, stL s = true → (go prog (n+9) (.fn 23) [.lam 5 (cap x)] s).plain = .ok (.tup [.str "BadMany", .int 0]) s := fun x s h => by rw [hear_many (n+7) (c5 x s)]; exact plain_ok (by simp) h
  have d4 : ∀ x s, stL s = true → (go prog (n+9) (.fn 23) [.lam 4 (cap x)] s).plain = .ok (.tup [.str "BadMany", .int 0]) s := fun x s h => by rw [hear_many (n+7) (c4 x s)]; exact plain_ok (by simp) h
  have d3 : ∀ x s, stL s = true → (go prog (n+9) (.fn 23) [.lam 3 (cap x)] s).plain = .ok (.tup [.str "BadMany", .int 0]) s := fun x s h => by rw [hear_many (n+7) (c3 x s)]; exact plain_ok (by simp) h
  have d2 : ∀ x s, stL s = true → (go prog (n+9) (.fn 23) [.lam 2 (cap x)] s).plain = .ok (.tup [.str "BadRoom", room]) s := fun x s h => by rw [hear_room (n+7) (c2 x s) p2]; exact plain_ok (by simp [p2]) h
  have d1 : ∀ x s, stL s = true → (go prog (n+9) (.fn 23) [.lam 1 (cap x)] s).plain = .ok (.tup [.str "BadRoom", room]) s := fun x s h => by rw [hear_room (n+7) (c1 x s) p2]; exact plain_ok (by simp [p2]) h
  have d0 : ∀ x s, stL s = true → (go prog (n+9) (.fn 23) [.lam 0 (cap x)] s).plain = .ok (.tup [.str "BadSize", .int (uw m * (uw m + 1) : Nat)]) s := fun x s h => by rw [hear_size (n+7) (c0 x s) (by simp)]; exact plain_ok (by simp) h
  simp only [cap] at d5 d4 d3 d2 d1 d0
  clear c5 c4 c3 c2 c1 c0
  generalize hLI : ((uw m * (uw m + 1) : Nat) : Int) = L at *
  have ap : ∀ (l : List D) (d : D), l.length < 100 → meD st.length (st3 ++ [Cell.lst l]) .append (.ref st3.length) [d] = .ok .non (st3 ++ [.lst (l ++ [d])]) := fun l d h => by
    rw [me_app (st3 ++ [Cell.lst l]) (n0 := st.length) (n := st3.length) (ds := l) (d := d) (by simp) (by rw [hl3]; simp) (by have : sizeLine = 16777216 := rfl; omega)]
    simp
  have rc : ∀ (l : List D), recv (st3 ++ [Cell.lst l]) .append (.ref st3.length) = true := fun l => rec_app (st3 ++ [Cell.lst l]) (n := st3.length) (ds := l) (by simp)
  have sl : ∀ (l : List D), pures l = true → stL (st3 ++ [Cell.lst l]) = true := fun l h => stL_lst hst3 h
  have a1 : arith .pow 10 30 = some (10^30) := rfl
  have f8 : fit 8 = true := rfl
  have f7 : fit 7 = true := rfl
  have f6 : fit 6 = true := rfl
  have f5 : fit 5 = true := rfl
  have f3 : fit 3 = true := rfl
  have f2 : fit 2 = true := rfl
  have z3 : repOk 1 3 = true := rfl
  have z2 : repOk 1 2 = true := rfl
  have w3 : ∀ d : D, repD [d] 3 = [d, d, d] := fun d => rfl
  have w2 : ∀ d : D, repD [d] 2 = [d, d] := fun d => rfl
  have fin3 : (st3 ++ [Cell.lst [.tup [.str "BadMany", .int 0], .tup [.str "BadMany", .int 0], .tup [.str "BadMany", .int 0], .tup [.str "BadRoom", room], .tup [.str "BadRoom", room], .tup [.str "BadSize", .int L]]]).take st.length = st3 := by
    rw [← hl3]
    simp
  have sm := same_ref (n+7) (st3 ++ [Cell.lst [.tup [.str "BadMany", .int 0], .tup [.str "BadMany", .int 0], .tup [.str "BadMany", .int 0], .tup [.str "BadRoom", room], .tup [.str "BadRoom", room], .tup [.str "BadSize", .int L]]]) (k := st3.length) (ds := [.tup [.str "BadMany", .int 0], .tup [.str "BadMany", .int 0], .tup [.str "BadMany", .int 0], .tup [.str "BadRoom", room], .tup [.str "BadRoom", room], .tup [.str "BadSize", .int L]]) (by simp) (by
    have := fl_le (show 2 ≤ 7 by omega) ff2
    simp [fl, this]) (by simp [szs, sz]; omega)
  refine ⟨st3, ?_, to1.trans (to2.trans to3)⟩
  rw [go_fn (d := F27) rfl rfl]
  simp at t2 t3
  simp [F27, q1, ar_mulL, hs, e0, t1, a1, f7, f8, t2, t3, d5, hst3, f1]
  simp [ap, rc, sl, d4, d3, d2, d1, d0, p2]
  simp [f2, v2, z3, z2, w3, w2, f5, f6]
  simp [sm, fin_pure, fin3]
/-! ### the law -/
theorem law_turn (n : Nat) (st : Sto) {ns : List Int} {i : Nat} (x y z : D) (hi : i < 5) (hL : stL st = true) : ∃ (m : Nat) (st' : Sto),
    evSs (cx (n+10) 0) prog.sub (F28.body.at 0).wB [.scr (ns.map .int), .int i, x, y] st = .nx [.scr (ns.map .int), .int i, .ref st.length, .int m] st' ∧ stL st' = true ∧ st'.length = st.length + 1 := by
  obtain ⟨ab, hj, e1⟩ := pool_ok (n+9) (st := st) (ns := ns) (k := i) (by omega)
  have at0 : JarAt (st ++ [jar ab]) st.length := ⟨ab, by simp, hj⟩
  have hL0 : stL (st ++ [jar ab]) = true := by
    rw [stL_app, hL]
    simp [stL, jar, Cell.nolam, nolams, D.nolam]
  obtain ⟨d, st1, e2, d1, to1, at1⟩ := take_to (n+9) at0 (t := 16) (by omega) (by omega)
  have e3 := units_right (n+4) st1 (m := d + 1) (by omega) (by omega)
  obtain ⟨st2, e4, to2⟩ := stretches_right (n+3) st1 (k := st.length) (m := d + 1) (by omega) (by omega) at1
  have at2 := to2.at_ at1
  have hL1 := stL_jarTo to1 hL0
  have hL2 := stL_jarTo to2 hL1
  obtain ⟨st3, e5, to3⟩ := refused_right n st2 (k := st.length) (m := d + 1) (by omega) (by omega) at2 hL2
  refine ⟨d + 1, st3, ?_, stL_jarTo to3 hL2, by rw [to3.len, to2.len, to1.len]; simp⟩
  have c : (1 : Int) + (d : Int) = ((d + 1 : Nat) : Int) := by omega
  simp [F28, Ss.at, S.wB, e1, e2, c, -Int.natCast_add]
  have e3' : go prog (n+10) (.fn 25) [.int ((d + 1 : Nat) : Int)] st1 = .ok (.bl true) st1 := e3
  have e4' : go prog (n+10) (.fn 26) [.ref st.length, .int ((d + 1 : Nat) : Int)] st1 = .ok (.bl true) st2 := e4
  simp [e3', e4', e5, -Int.natCast_add]
theorem k11_law (ns : List Int) : ∃ st, go prog 30 (.fn 28) [.scr (ns.map .int)] [] = .ok (.bl true) st := by
  have loop := forI_inv (p := .name 1) (tb := evSs (cx 29 0) prog.sub (F28.body.at 0).wB) (fun i env st' => ∃ t x y, env = [.scr (ns.map .int), t, x, y] ∧ stL st' = true ∧ st'.length = i)
    ((List.range 5).map fun i => .int (i : Nat)) 0 [.scr (ns.map .int), .no, .no, .no] [] ⟨.no, .no, .no, rfl, rfl, rfl⟩ (by
      rintro i d env st' hd ⟨t, x, y, rfl, hL, hlen⟩
      obtain ⟨hi, rfl⟩ := range_get hd
      obtain ⟨m, st2, e, h1, h2⟩ := law_turn 19 st' (ns := ns) (i := i) x y .no hi hL
      exact ⟨_, _, _, by simp, e, .int i, _, _, rfl, h1, by omega⟩)
  obtain ⟨env', st', e, t, x, y, rfl, hL, hlen⟩ := loop
  refine ⟨[], ?_⟩
  have r0 := rng1 (m := 5) (by omega)
  rw [show ((5 : Nat) : Int) = 5 from rfl] at r0
  simp only [F28, Ss.at, S.wB] at e
  rw [go_fn (n := 29) (d := F28) rfl rfl]
  simp only [F28, evSs_cons, evS_for, evI_rng, evEs_cons, evE_con, evEs_nil, bk_ok, k_cons, k_cons2, k_rng, r0, Option.map_some, of_some, fk_ok, f_for, forS_its, List.length_nil, List.length_cons, List.replicate]
  simp only [List.append, List.cons_append, List.nil_append]
  rw [e]
  simp [fin_pure]
end Ev

end
section
set_option linter.all false
set_option maxRecDepth 100000
namespace Ev
open PySem PySem.W PySem.Calls PyProof.Rows
def topS (i : Nat) : Stmt := PySem.Challenge.rw_toldquiet_k11_loud_units_and_stretches.prog.main.body.getD i (.Pass ⟨0, 0, 0, 0⟩)
def ddL0 : List Dd := [⟨0, "is_number", ["thing"], 20, []⟩,
  ⟨1, "is_between", ["thing", "low", "high"], 21, []⟩,
  ⟨2, "check_many", ["many", "low", "high"], 22, []⟩,
  ⟨3, "loud_digits", ["many"], 27, []⟩,
  ⟨4, "size_of_unit", ["many"], 28, []⟩,
  ⟨5, "least_loud", ["many"], 29, []⟩,
  ⟨6, "loud_unit_of", ["many", "room", "turn", "found", "left"], 30, []⟩,
  ⟨7, "loud_stretch_of", ["many", "room", "size", "unit", "units", "longer"], 31, []⟩,
  ⟨8, "loud_size", ["many"], 32, []⟩,
  ⟨9, "check_loud", ["many", "room"], 33, []⟩,
  ⟨10, "loud_unit", ["many", "room"], 34, []⟩,
  ⟨11, "loud_stretch", ["many", "room", "size"], 35, []⟩,
  ⟨12, "_law_pool", ["script", "k", "cell", "big", "mixed"], 43, []⟩,
  ⟨13, "_law_take", ["jar", "top", "drawn"], 44, []⟩,
  ⟨14, "_law_one", ["jar", "some"], 45, []⟩,
  ⟨15, "_law_is_whole", ["thing"], 46, []⟩,
  ⟨16, "_law_same", ["heard", "owed", "todo", "one", "due", "is_so", "i"], 47, []⟩,
  ⟨17, "_law_no_number", ["jar", "low", "high"], 48, []⟩,
  ⟨18, "_law_pt_bits", ["number", "found"], 49, []⟩,
  ⟨19, "_law_pt_loud_size", ["l"], 50, []⟩,
  ⟨20, "_law_pt_loud_unit", ["l", "room", "digit", "many", "found"], 51, []⟩,
  ⟨21, "_law_pt_loud_stretch", ["l", "room", "size", "unit", "go", "many", "more", "cells"], 52, []⟩,
  ⟨22, "_law_dr_heard", ["asked", "refused_one"], 53, []⟩,
  ⟨23, "_law_dr_line", ["asked", "refused_one"], 54, []⟩,
  ⟨24, "_law_read_back", ["many", "cells", "room_by", "width", "at", "rooms", "further", "unit", "is_more", "room"], 55, []⟩,
  ⟨25, "_law_units_right", ["many", "width", "told", "room", "unit"], 56, []⟩,
  ⟨26, "_law_stretches_right", ["jar", "many", "width", "least", "size", "room", "cells", "found", "one"], 57, []⟩,
  ⟨27, "_law_refused_right", ["jar", "many", "width", "least", "size", "some", "due", "bad", "room"], 58, [0, 1, 2, 3, 4, 5]⟩,
  ⟨28, "law", ["script", "turn", "jar", "many"], 59, []⟩]
def csL0 : List (Nat × Str) := [(0, "Refused"), (1, "BadK"), (2, "BadMany"), (3, "BadView"), (4, "BadMachine"), (5, "BadWord"), (6, "TooMany"), (7, "BadRoom"), (8, "BadLot"), (9, "TooThin"), (10, "BadSize"), (11, "BadLine"), (12, "BadLengths"), (13, "TooLong"), (14, "NotLet"), (15, "Short"), (16, "BadInspector"), (17, "BadLimit"), (18, "BadTold"), (19, "BadScheme"), (20, "BadQuiet"), (21, "BadRooms"), (22, "Missed")]
def gsL : List (Nat × Str) := [(0, "MOST_SIZE"), (1, "MOST_LOUD"), (2, "HEAD")]
def kwL : List (Nat × List Str × List Nat) := [(11, ["size", "room", "many"], [2, 1, 0])]
def tbL : Tb := ⟨ddL0, gsL, csL0, kwL⟩
def initS : Stmt := match topS 1 with
  | .ClassDef _ _ _ (st :: _) .. => st
  | _ => .Pass ⟨0, 0, 0, 0⟩
theorem tb_dd : tbL.ds.all (fun d => ddB tbL prog topS d && scB d.N (psA (L2.defArgs (topS d.k))) (L2.defScope (topS d.k))) = true := by kernel_rfl
theorem tb_lk : tbL.ds.all (fun d => d.lk.all fun k => decide (tbL.q k = Tb.lq d)) = true := by kernel_rfl
theorem tb_cs : clsL.all (fun c => match tbL.cnm c with
  | some x => decide ((c, x) ∈ tbL.cs)
  | none => false) = true := by kernel_rfl
theorem tb_nc : tbL.cs.all (fun p => prog.sub p.1 p.1) = true := by kernel_rfl
/-- where the def of that name stands -/
theorem kw_place {d : Dd} {f k : Nat} (hd : d ∈ tbL.ds) (hf : tbL.fnm f = some d.x) (hk : (tbL.ds.all fun e => !decide (tbL.fnm f = some e.x) || e.k == k) = true) : d.k = k := by
  have := List.all_eq_true.mp hk d hd
  rw [hf] at this
  simpa using this
theorem tb_ok : TbOk tbL prog topS where
  dd := tb_dd
  lk := tb_lk
  cs := fun c h => by
    have h1 : clsL.contains c = true := (ba (show (clsL.contains c && (c == c || c == clsTop)) = true from h)).1
    have h2 := List.all_eq_true.mp tb_cs c (List.contains_iff_mem.mp h1)
    split at h2
    · rename_i x e
      exact ⟨x, of_decide_eq_true h2, e⟩
    · cases h2
  nc := fun k x h => List.all_eq_true.mp tb_nc _ (find_cnm h)
  kw := fun e he d hd hf x qual body scope kV doc pm cdv ct an ws as hm hl => by
    simp only [tbL, kwL, List.mem_cons, List.mem_nil_iff, or_false] at he
    rcases he with rfl
    · have hd2 : d.k = 35 := kw_place hd hf (by kernel_rfl)
      rw [hd2] at hl ⊢
      match ws, hm with
      | [], hm => simp [mapO] at hm
      | [a0], hm => simp [mapO] at hm
      | [a0, a1], hm => simp [mapO] at hm
      | a0 :: a1 :: a2 :: ws, hm =>
        have e : as = [a2, a1, a0] := by simpa [mapO] using hm.symm
        subst e
        rfl
theorem ini_ok : IniOk initS := ⟨⟨_, _, _, _, rfl⟩, by kernel_rfl, by kernel_rfl, by kernel_rfl⟩
abbrev R : OpenRow := OpenLaw.row PySem.Challenge.rw_toldquiet_k11_loud_units_and_stretches
abbrev qv : Program := view R.prog [59]
def nmL0 : List PySem.Str := ["Refused", "BadK", "BadMany", "BadView", "BadMachine", "BadWord", "TooMany", "BadRoom", "BadLot", "TooThin", "BadSize", "BadLine", "BadLengths", "TooLong", "NotLet", "Short", "BadInspector", "BadLimit", "is_number", "is_between", "check_many", "MOST_SIZE", "MOST_LOUD", "HEAD", "loud_digits", "size_of_unit", "least_loud", "loud_unit_of", "loud_stretch_of", "loud_size"]
def nmL1 : List PySem.Str := ["check_loud", "loud_unit", "loud_stretch", "BadTold", "BadScheme", "BadQuiet", "BadRooms", "Missed", "_law_pool", "_law_take", "_law_one", "_law_is_whole", "_law_same", "_law_no_number", "_law_pt_bits", "_law_pt_loud_size", "_law_pt_loud_unit", "_law_pt_loud_stretch", "_law_dr_heard", "_law_dr_line", "_law_read_back", "_law_units_right", "_law_stretches_right", "_law_refused_right"]
def names : List PySem.Str := nmL0 ++ nmL1
abbrev hk : PySem.W.Hook := hookH tbL prog topS initS
def ob (s : PySem.W.SharedT) : He.AlX := He.obsX 6 (faH tbL) (fnH tbL topS initS) [] tbL.tf (exB tbL prog) (HandSHeadRun.getT s)
theorem ob_eq (s : PySem.W.SharedT) : ob s = hk.obs s.abs := He.obsX_eq (HandSHeadRun.getT_eq s)
set_option maxHeartbeats 0 in
theorem run (w : World) : HandSHeadRun.RunEq R qv hk ob 8000 names w := by
  intro os
  kernel_rfl
def dLaw : Dd := (tbL.ds.getD 28 ⟨0, "", [], 0, []⟩)
theorem law_at_ {w : World} {mg : Str → Option Value} {fa : Addr} {h : Heap} {K : PySem.W.Frag} (hn : h.Ns mainGlobals mg) (X : K.In h) (c : He.SaysX (faH tbL) (fnH tbL topS initS) [] tbL.tf (exB tbL prog) w h K) (hmg : mg ("law" : Str) = some (.ref fa)) : LamX.LawAtS PySem.Challenge.rw_toldquiet_k11_loud_units_and_stretches w K (L2.CX PySem.Challenge.rw_toldquiet_k11_loud_units_and_stretches.prog w) (30 + 2) 63 "script" mg fa h :=
  law_F (d := dLaw) (l := PySem.Challenge.rw_toldquiet_k11_loud_units_and_stretches) (N := 30) hn X ini_ok tb_ok c (List.mem_of_getElem? (i := 28) (by kernel_rfl)) hmg (by kernel_rfl) (by kernel_rfl) fun ns _ => k11_law ns
end Ev
end
open PySem PySem.W PySem.Calls PyProof.Rows
set_option Elab.async false
set_option maxRecDepth 100000 in
set_option maxHeartbeats 0 in
theorem PySem.Challenge.cw_toldquiet_k11_loud_units_and_stretches_holds : PySem.Challenge.rw_toldquiet_k11_loud_units_and_stretches.Holds := by
  w_on; o_law
  refine HandSHeadRun.head_any (r := OpenLaw.row PySem.Challenge.rw_toldquiet_k11_loud_units_and_stretches) (q := Ev.qv) (H := Ev.hk) (ob := Ev.ob) (M := 8000) (loose := Ev.names) (d := HandSHeadRun.topDef (OpenLaw.row PySem.Challenge.rw_toldquiet_k11_loud_units_and_stretches).prog 59) (kwd := []) Ev.ob_eq
    (by kernel_rfl) (fun s => by kernel_rfl) Ev.run (by kernel_rfl) (by kernel_rfl) (by kernel_rfl) (by rfl) (by first | assumption | decide +kernel) (by decide +kernel) ⟨rfl, rfl, rfl, rfl, rfl, by decide +kernel⟩ ?hw ?hc
  case hw => w_witness2
  case hc =>
    refine LamX.walk_ofTsE (l := PySem.Challenge.rw_toldquiet_k11_loud_units_and_stretches) (n := 63) (k := 32) (x := "script") (CX := fun w => L2.CX PySem.Challenge.rw_toldquiet_k11_loud_units_and_stretches.prog w) rfl (by decide) (by kernel_rfl) ⟨rfl, by decide, by decide⟩ ?F (fun _ _ _ _ _ ⟨_, _, _, _, _, _, _, _, _, _, _, _, z⟩ => z)
    intro w mg fa h Y G hmg0
    obtain ⟨K, KX, c⟩ := Y
    have hmg : mg ("law" : PySem.Str) = some (.ref fa) := by
      have e : (HandSHeadRun.topDef (OpenLaw.row PySem.Challenge.rw_toldquiet_k11_loud_units_and_stretches).prog 59).name = ("law" : PySem.Str) := by kernel_rfl
      rw [← e]
      exact hmg0
    exact ⟨K, KX, Ev.law_at_ G KX c hmg⟩
