import PyProof.Rows.All
import Wide.All
import OpenK.AllK
import Wide.FinOn
import HandS.ForMost
import KE.SortData
import HandS.Conv
import HandS.IsInst
import HandS.Style
import HandS.TupAny
import HandS.TupMul
import HandS.TupLe
import HandS.SortInts
import HandS.Flow
import HandS.Zip
import HandS.Small
import HandS.Deep
import PyProof.NeKinds
import PyProof.ReprRoads
import HandS.WordsExc
import HandS.Defaults
import HandS.Ends
import HandS.HeadEnd
import HandS.HeadHook2
import HandS.Head0
import HandS.Head1
import HandS.Head2
import HandS.HeadHook1
import PySem.Challenge.RW_rimehold_k01_houses_looked_at
set_option Elab.async false
set_option linter.all false
set_option maxRecDepth 100000
set_option maxHeartbeats 4000000
namespace MP
open PySem L2

/-- a value: tuples are trees, what may change stands in the store -/
inductive D where
  | non | bl (b : Bool) | int (i : Int) | str (x : Str) | ty (n : String) | own (x : Str) | ref (n : Nat) | tup (xs : List D) | con (xs : List D)
  deriving Inhabited

/-- what stands in the store -/
inductive O where
  | lst (xs : List D)
  | dic (kvs : List (Key × D))
  | ins (c : Nat) (fs : List (Str × D))
  deriving Inhabited

abbrev Store := List O
abbrev Env := List (Option D)

inductive Res (α : Type) where
  | ok (a : α) (S : Store)
  | exc (c : Str) (S : Store)
  | bad

/-- where an exception may not leave -/
def Res.noX {α : Type} (r : Res α) : Res α :=
  match r with
  | .ok a S => .ok a S
  | .exc _ _ => .bad
  | .bad => .bad
def Res.bind {α β : Type} (r : Res α) (f : α → Store → Res β) : Res β :=
  match r with
  | .ok a S => f a S
  | .exc c S => .exc c S
  | .bad => .bad

/-- a target of a for or a comprehension -/
inductive Tg where
  | one (i : Nat)
  | many (is : List Nat)

/-- the built-in functions and methods that are known -/
inductive Bf where
  | len | isi | all | any | sum | max2 | min2 | max1 | min1 | sorted | list | tuple | repr | int
  deriving DecidableEq
inductive Bm where
  | append | extend | get | get2 | index | count | pop | insert | remove | clear
  deriving DecidableEq
inductive It where
  | seq | rng | enu | zip

/-- expressions; lists of arguments by nil and cons; no: a bound or a test that is not there -/
inductive C where
  | var (i : Nat) | val (d : D) | glo (x : Str) (d : D) | bty (n : String)
  | bin (op : Operator) (a b : C) | neg (a : C) | not (a : C) | and (a b : C) | or (a b : C)
  | cmp (op : CmpOp) (a b : C) | cmp2 (op op' : CmpOp) (a b c : C)
  | ite (t a b : C)
  | tup (as : C) | lst (as : C) | dct (ks : List Key) (as : C)
  | call (f : Nat) (as : C) | blt (f : Bf) (as : C) | mth (m : Bm) (o as : C) | omth (c f : Nat) (o as : C) | make (c f : Nat) (as : C)
  | idx (a b : C) | slc (a lo hi : C) | rev (a : C)
  | fld (c : Nat) (o : C) (f : Str)
  | lc (tg : Tg) (it : It) (x cond elt : C)
  | nil | cons (a as : C) | no

/-- statements -/
inductive K where
  | skip | seq (a b : K) | expr (c : C) | set (i : Nat) (c : C) | unp (is : List Nat) (c : C) | par (is : List Nat) (as : C)
  | put (o i v : C) | setf (c : Nat) (o : C) (f : Str) (v : C)
  | ret (c : C) | retN | ife (t : C) (a b : K) | whl (t : C) (b : K) | for_ (tg : Tg) (it : It) (x : C) (b : K)
  | rais (c : Str) | cont | dead

inductive Fl where
  | nx (r : Env) | rt (d : D) | ct (r : Env)

/-! ### sequences -/
def lim : Nat := 16777216
def seqOf (S : Store) : D → Option (List D)
  | .tup xs => some xs
  | .con xs => some xs
  | .ref n => match S[n]? with
    | some (.lst xs) => some xs
    | _ => none
  | _ => none
def lstOf (S : Store) : D → Option (List D)
  | .con xs => some xs
  | .ref n => match S[n]? with
    | some (.lst xs) => some xs
    | _ => none
  | _ => none

def cut (xs : List D) (lo hi : Option Int) : List D := (xs.drop (HT.sIx xs.length 0 lo)).take (HT.sIx xs.length xs.length hi - HT.sIx xs.length 0 lo)

/-- the source of a walk -/
inductive Src where
  | fix (xs : List D) | lst (n : Nat) | enu (n : Nat) | zip (n m : Nat) | rng (lo : Int) (n : Nat)
def conOf : Option O → Option (List D)
  | some (.lst xs) => some xs
  | _ => none
/-- none: it is none; some none: the end -/
def Src.at (i : Nat) (S : Store) : Src → Option (Option D)
  | .fix xs => some xs[i]?
  | .lst n => (conOf S[n]?).map fun xs => xs[i]?
  | .enu n => (conOf S[n]?).map fun xs => xs[i]?.map fun x => .tup [.int i, x]
  | .zip n m => (conOf S[n]?).bind fun xs => (conOf S[m]?).map fun ys => xs[i]?.bind fun x => ys[i]?.map fun y => .tup [x, y]
  | .rng lo n => some (if i < n then some (.int (lo + i)) else none)
def Src.len (S : Store) : Src → Nat
  | .fix xs => xs.length
  | .lst n => ((conOf S[n]?).map List.length).getD 0
  | .enu n => ((conOf S[n]?).map List.length).getD 0
  | .zip n _ => ((conOf S[n]?).map List.length).getD 0
  | .rng _ n => n

def big : Int := 4611686018427387904
/-- what is walked -/
def srcSeq (d : D) (S : Store) : Option Src :=
  match d with
  | .tup xs => some (.fix xs)
  | .con xs => some (.fix xs)
  | .ref n => (conOf S[n]?).map fun _ => .lst n
  | _ => none
def srcRng1 (d : D) : Option Src :=
  match d with
  | .int j => if -big ≤ j ∧ j < big then some (.rng 0 j.toNat) else none
  | _ => none
def srcRng2 (d e : D) : Option Src :=
  match d, e with
  | .int i, .int j => if -big ≤ i ∧ i < big ∧ -big ≤ j ∧ j < big then some (.rng i (j - i).toNat) else none
  | _, _ => none
def srcEnu (d : D) (S : Store) : Option Src :=
  match d with
  | .ref n => (conOf S[n]?).map fun _ => .enu n
  | _ => none
def srcZip (d e : D) (S : Store) : Option Src :=
  match d, e with
  | .tup xs, .tup ys => some (.fix (List.zipWith (fun x y => D.tup [x, y]) xs ys))
  | .ref n, .ref m => (conOf S[n]?).bind fun _ => (conOf S[m]?).map fun _ => .zip n m
  | _, _ => none
def srcOf (it : It) (ds : List D) (S : Store) : Option Src :=
  match it with
  | .seq => match ds with
    | [d] => srcSeq d S
    | _ => none
  | .rng => match ds with
    | [d] => srcRng1 d
    | [d, e] => srcRng2 d e
    | _ => none
  | .enu => match ds with
    | [d] => srcEnu d S
    | _ => none
  | .zip => match ds with
    | [d, e] => srcZip d e S
    | _ => none

/-- a target's assignment -/
def setAll : List Nat → List D → Env → Option Env
  | [], [], r => some r
  | i :: is, d :: ds, r => setAll is ds (r.set i (some d))
  | _, _, _ => none
def Tg.set (x : D) (r : Env) : Tg → Option Env
  | .one i => some (r.set i (some x))
  | .many is => match x with
    | .tup ds => if ds.length = is.length then setAll is ds r else none
    | _ => none
def Tg.slots : Tg → List Nat
  | .one i => [i]
  | .many is => is
def wipeD (r : Env) : List Nat → Env
  | [] => r
  | v :: vs => (wipeD r vs).set v none

def forL (src : Src) (body : D → Env → Store → Res Fl) : Nat → Nat → Env → Store → Res Fl
  | 0, i, r, S => match src.at i S with
    | some none => .ok (.nx r) S
    | _ => .bad
  | m + 1, i, r, S => match src.at i S with
    | some none => .ok (.nx r) S
    | some (some x) => (body x r S).bind fun f S => match f with
      | .nx r => forL src body m (i + 1) r S
      | .ct r => forL src body m (i + 1) r S
      | .rt d => .ok (.rt d) S
    | none => .bad
/-- a comprehension: what it makes so far -/
def lcL (src : Src) (body : D → Store → Res (Option D)) : Nat → Nat → List D → Store → Res (List D)
  | 0, i, acc, S => match src.at i S with
    | some none => .ok acc S
    | _ => .bad
  | m + 1, i, acc, S => match src.at i S with
    | some none => .ok acc S
    | some (some x) => (body x S).bind fun y S => match y with
      | some y => lcL src body m (i + 1) (acc ++ [y]) S
      | none => lcL src body m (i + 1) acc S
    | none => .bad
def truD {α : Type} (x : D) (S : Store) (a b : Store → Res α) : Res α :=
  match x with
  | .bl true => a S
  | .bl false => b S
  | _ => .bad
def whlL (test : Env → Store → Res D) (body : Env → Store → Res Fl) : Nat → Env → Store → Res Fl
  | 0, _, _ => .bad
  | m + 1, r, S => (test r S).bind fun t S => truD t S (fun S => (body r S).bind fun f S => match f with
      | .nx r => whlL test body m r S
      | .ct r => whlL test body m r S
      | .rt d => .ok (.rt d) S) fun S => .ok (.nx r) S
end MP

namespace MP
open PySem L2

/-! ### data -/
def kD : Key → D
  | .inl i => .int i
  | .inr x => .str x
def kP : Key → PyData
  | .inl i => .int i
  | .inr x => .str x
/-- a value as a datum, f deep at most -/
def toPy (S : Store) : Nat → D → Option PyData
  | 0, .non => some .none
  | 0, .bl b => some (.bool b)
  | 0, .int i => some (.int i)
  | 0, .str x => some (.str x)
  | 0, _ => none
  | f + 1, d => match d with
    | .non => some .none
    | .bl b => some (.bool b)
    | .int i => some (.int i)
    | .str x => some (.str x)
    | .tup xs => (xs.mapM (toPy S f)).map PyData.tuple
    | .con xs => (xs.mapM (toPy S f)).map PyData.list
    | .ref n => match S[n]? with
      | some (.lst xs) => (xs.mapM (toPy S f)).map PyData.list
      | some (.dic kvs) => (kvs.mapM fun kv => (toPy S f kv.2).map fun v => (kP kv.1, v)).map PyData.dict
      | _ => none
    | _ => none
def dep : Nat := 60

def isFlat : D → Bool
  | .non | .bl _ | .int _ | .str _ => true
  | _ => false
def b2i (b : Bool) : Int := if b then 1 else 0
def eqF : D → D → Bool
  | .non, .non => true
  | .bl a, .bl b => a == b
  | .bl a, .int b => b2i a == b
  | .int a, .bl b => a == b2i b
  | .int a, .int b => a == b
  | .str a, .str b => a == b
  | _, _ => false
/-- x == y -/
def eqD (S : Store) (x y : D) : Option Bool :=
  if isFlat x && isFlat y then some (eqF x y)
  else match x, y with
  | .tup xs, .tup [] => some xs.isEmpty
  | .tup [], .tup ys => some ys.isEmpty
  | x, y =>
    match lstOf S x, lstOf S y with
    | some xs, some [] => some xs.isEmpty
    | some [], some ys => some ys.isEmpty
    | _, _ => match toPy S dep x, toPy S dep y with
      | some a, some b => if a.canLay0 && b.canLay0 then some (PyData.eqv a b) else none
      | _, _ => none
def intsOf : List D → Option (List Int)
  | [] => some []
  | .int i :: r => (intsOf r).map (i :: ·)
  | _ :: _ => none
def blsOf : List D → Option (List Bool)
  | [] => some []
  | .bl i :: r => (blsOf r).map (i :: ·)
  | _ :: _ => none
/-- x < y, x <= y of ints and of tuples of ints -/
def ltD (x y : D) : Option Bool :=
  match x, y with
  | .int i, .int j => some (decide (i < j))
  | .tup xs, .tup ys => match intsOf xs, intsOf ys with
    | some ns, some ms => some (HT.lexLt ns ms)
    | _, _ => none
  | _, _ => none
def leD (x y : D) : Option Bool :=
  match x, y with
  | .int i, .int j => some (decide (i ≤ j))
  | .tup xs, .tup ys => match intsOf xs, intsOf ys with
    | some ns, some ms => some (!HT.lexLt ms ns)
    | _, _ => none
  | _, _ => none
def keyOf : D → Option Key
  | .int i => some (.inl i)
  | .str x => some (.inr x)
  | _ => none
def dictOf (S : Store) : D → Option (List (Key × D))
  | .ref n => match S[n]? with
    | some (.dic kvs) => some kvs
    | _ => none
  | _ => none
def valD (kvs : List (Key × D)) (k : Key) : Option D := (kvs.find? fun kv => decide (kv.1 = k)).map (·.2)
def inD (S : Store) (x y : D) : Option Bool :=
  match seqOf S y with
  | some ys => if isFlat x && ys.all isFlat then some (ys.any fun y => eqF y x)
    else match lstOf S y, toPy S dep x, ys.mapM (toPy S dep) with
    | some _, some a, some ps => if a.canLay0 && PyData.canLayAll0 ps then some (ps.any fun z => PyData.eqv z a) else none
    | _, _, _ => none
  | none => match dictOf S y, keyOf x with
    | some kvs, some k => some (valD kvs k).isSome
    | _, _ => none
def isD (x y : D) : Option Bool :=
  match x, y with
  | .bl a, .bl b => some (decide (a = b))
  | .non, .non => some true
  | x, .non => match x with
    | .ty _ => none
    | .own _ => none
    | _ => some false
  | _, _ => none
def ofO {α : Type} (o : Option α) (f : α → D) (S : Store) : Res D :=
  match o with
  | some a => .ok (f a) S
  | none => .bad
def cmpD (op : CmpOp) (x y : D) (S : Store) : Res D :=
  match op with
  | .Eq => ofO (eqD S x y) D.bl S
  | .NotEq => ofO (eqD S x y) (fun b => .bl (!b)) S
  | .Lt => ofO (ltD x y) D.bl S
  | .LtE => ofO (leD x y) D.bl S
  | .Gt => match x, y with
    | .int i, .int j => .ok (.bl (decide (j < i))) S
    | _, _ => .bad
  | .GtE => match x, y with
    | .int i, .int j => .ok (.bl (decide (j ≤ i))) S
    | _, _ => .bad
  | .In => ofO (inD S x y) D.bl S
  | .NotIn => ofO (inD S x y) (fun b => .bl (!b)) S
  | .Is => ofO (isD x y) D.bl S
  | .IsNot => ofO (isD x y) (fun b => .bl (!b)) S

def p64 : Int := 18446744073709551616
def mulOk (i j : Int) : Bool := (decide (-p64 < i) && decide (i < p64)) || (decide (-p64 < j) && decide (j < p64))
def newL (xs : List D) (S : Store) : Res D := .ok (.ref S.length) (S ++ [.lst xs])
def binD (op : Operator) (x y : D) (S : Store) : Res D :=
  match op, x, y with
  | .Add, .int i, .int j => .ok (.int (i + j)) S
  | .Add, .tup xs, .tup ys => if xs.length + ys.length ≤ lim then .ok (.tup (xs ++ ys)) S else .bad
  | .Add, .str a, .str b => if a.length + b.length ≤ lim then .ok (.str (a ++ b)) S else .bad
  | .Add, .ref n, .ref m => match S[n]?, S[m]? with
    | some (.lst xs), some (.lst ys) => if xs.length + ys.length ≤ lim then newL (xs ++ ys) S else .bad
    | _, _ => .bad
  | .Sub, .int i, .int j => .ok (.int (i - j)) S
  | .Mult, .int i, .int j => if mulOk i j then .ok (.int (i * j)) S else .bad
  | .Mult, .tup xs, .int k => if xs ≠ [] ∧ 2 ≤ k ∧ k ≤ 1000 ∧ xs.length ≤ 1000 then .ok (.tup (List.replicate k.toNat xs).flatten) S else .bad
  | .Mult, .ref n, .int k => match S[n]? with
    | some (.lst xs) => if 0 ≤ k ∧ k ≤ 1000 ∧ xs.length ≤ 1000 then newL (List.replicate k.toNat xs).flatten S else .bad
    | _ => .bad
  | .FloorDiv, .int i, .int j => if 0 < j ∧ j < 1073741824 then .ok (.int (i / j)) S else .bad
  | .Mod, .int i, .int j => if 0 < j then .ok (.int (i % j)) S else .bad
  | .Pow, .int i, .int j => if 0 ≤ j ∧ j ≤ 1000 ∧ i.natAbs < 1000 then .ok (.int (i ^ j.toNat)) S else .bad
  | _, _, _ => .bad
def idxD (x y : D) (S : Store) : Res D :=
  match y with
  | .int i => match seqOf S x with
    | some xs => ofO (atI xs i) id S
    | none => match x with
      | .str z => if z.length ≤ lim then ofO (atI z.cps.toList i) (fun c => .str ⟨#[c]⟩) S else .bad
      | x => match dictOf S x with
        | some kvs => ofO (valD kvs (.inl i)) id S
        | none => .bad
  | .str z => match dictOf S x with
    | some kvs => ofO (valD kvs (.inr z)) id S
    | none => .bad
  | _ => .bad
def slcD (x : D) (l h : Option Int) (S : Store) : Res D :=
  match x with
  | .tup xs => .ok (.tup (cut xs l h)) S
  | x => match lstOf S x with
    | some xs => newL (cut xs l h) S
    | none => .bad
def revD (x : D) (S : Store) : Res D :=
  match lstOf S x with
  | some xs => newL xs.reverse S
  | none => .bad

/-! ### built-in functions -/
def tyD (S : Store) : D → Option String
  | .non => some "NoneType"
  | .bl _ => some "bool"
  | .int _ => some "int"
  | .str _ => some "str"
  | .tup _ => some "tuple"
  | .con _ => some "list"
  | .ref n => match S[n]? with
    | some (.lst _) => some "list"
    | some (.dic _) => some "dict"
    | _ => none
  | _ => none
def isaT : String → String → Option Bool
  | t, "int" => some (t == "int" || t == "bool")
  | t, "bool" => some (t == "bool")
  | t, "str" => some (t == "str")
  | t, "tuple" => some (t == "tuple")
  | t, "list" => some (t == "list")
  | t, "dict" => some (t == "dict")
  | _, _ => none
def isiD (S : Store) (x c : D) : Option Bool :=
  match c with
  | .ty T => (tyD S x).bind fun t => isaT t T
  | _ => none
def lenD (S : Store) (x : D) : Option Nat :=
  match seqOf S x with
  | some xs => some xs.length
  | none => match x with
    | .str z => if z.length ≤ lim then some z.length else none
    | x => (dictOf S x).map List.length
def allAlike : List PyData → Bool
  | ds => ds.all fun a => ds.all fun b => PySem.W.alike a b
def sortable (ds : List PyData) : Bool :=
  (ds.all fun d => match d with
    | .tuple (_ :: _) => true
    | _ => false) || (ds.all fun d => match d with
    | .none => false
    | .tuple _ => false
    | .dict _ => false
    | _ => true)
def sortD (S : Store) (xs : List D) : Option (List D) :=
  (xs.mapM (toPy S dep)).bind fun ps =>
    if allAlike ps && sortable ps then some (((xs.zip ps).mergeSort (PySem.W.dataLe false Prod.snd)).map Prod.fst) else none
def maxL : List Int → Int
  | [] => 0
  | x :: r => r.foldl max x
def minL : List Int → Int
  | [] => 0
  | x :: r => r.foldl min x
def bltD (f : Bf) (ds : List D) (S : Store) : Res D :=
  match f, ds with
  | .len, [x] => ofO (lenD S x) (fun n => .int n) S
  | .isi, [x, c] => ofO (isiD S x c) D.bl S
  | .all, [x] => ofO ((lstOf S x).bind blsOf) (fun bs => .bl (bs.all id)) S
  | .any, [x] => ofO ((lstOf S x).bind blsOf) (fun bs => .bl (bs.any id)) S
  | .sum, [x] => ofO ((lstOf S x).bind intsOf) (fun ns => .int ns.sum) S
  | .max2, [.int i, .int j] => .ok (.int (if j > i then j else i)) S
  | .min2, [.int i, .int j] => .ok (.int (if j < i then j else i)) S
  | .max1, [x] => match (lstOf S x).bind intsOf with
    | some ns => if 0 < ns.length then .ok (.int (maxL ns)) S else .bad
    | none => .bad
  | .min1, [x] => match (lstOf S x).bind intsOf with
    | some ns => if 0 < ns.length then .ok (.int (minL ns)) S else .bad
    | none => .bad
  | .sorted, [x] => match (seqOf S x).bind (sortD S) with
    | some ys => newL ys S
    | none => .bad
  | .list, [x] => match seqOf S x with
    | some xs => newL xs S
    | none => .bad
  | .tuple, [x] => ofO (seqOf S x) D.tup S
  | .repr, [x] => match toPy S dep x with
    | some p => if p.showable && decide (p.shown.length ≤ lim) then .ok (.str p.shown) S else .bad
    | none => .bad
  | .int, [.int i] => .ok (.int i) S
  | .int, [.bl b] => .ok (.int (if b then 1 else 0)) S
  | _, _ => .bad
def putK' (kvs : List (Key × D)) (k : Key) (v : D) : List (Key × D) :=
  if (kvs.any fun kv => decide (kv.1 = k)) = true then kvs.map (fun kv => if kv.1 = k then (kv.1, v) else kv) else kvs ++ [(k, v)]
def putD (S : Store) (x i v : D) : Option Store :=
  match x with
  | .ref n => match S[n]? with
    | some (.lst xs) => match i with
      | .int k => (ixN xs.length k).map fun j => S.set n (.lst (xs.set j v))
      | _ => none
    | some (.dic kvs) => match keyOf i with
      | some k => if kvs.length < lim then some (S.set n (.dic (putK' kvs k v))) else none
      | none => none
    | _ => none
  | _ => none
/-- 1: a list, 2: a dict -/
def kindD (x : D) (S : Store) : Nat :=
  match x with
  | .ref n => match S[n]? with
    | some (.lst _) => 1
    | some (.dic _) => 2
    | _ => 0
  | _ => 0
def Bm.ty : Bm → Nat
  | .get | .get2 => 2
  | _ => 1
def mthD (m : Bm) (o : D) (ds : List D) (S : Store) : Res D :=
  match m, o, ds with
  | .append, .ref n, [v] => match S[n]? with
    | some (.lst xs) => if xs.length < lim then .ok .non (S.set n (.lst (xs ++ [v]))) else .bad
    | _ => .bad
  | .extend, .ref n, [.ref k] => match S[n]?, S[k]? with
    | some (.lst xs), some (.lst ys) => if xs.length + ys.length ≤ lim then .ok .non (S.set n (.lst (xs ++ ys))) else .bad
    | _, _ => .bad
  | _, _, _ => .bad

/-! ### the interpreter -/
structure Cal where
  call : Nat → List D → Store → Res D

def C.isNo : C → Bool
  | .no => true
  | _ => false
/-- a slice's bound -/
def evB (b : Bool) (f : Store → Res D) (S : Store) : Res (Option Int) :=
  if b then .ok none S else (f S).bind fun d S => match d with
    | .int i => .ok (some i) S
    | _ => .bad
/-- an optional condition -/
def condD (t : Res D) (e : Store → Res D) : Res (Option D) :=
  t.bind fun x S => truD x S (fun S => (e S).bind fun y S => .ok (some y) S) fun S => .ok none S
mutual
def evE (Γ : Cal) : C → Env → Store → Res D
  | .var i, r, S => match r[i]? with
    | some (some d) => .ok d S
    | _ => .bad
  | .val d, _, S => .ok d S
  | .glo _ d, _, S => .ok d S
  | .bty n, _, S => .ok (.ty n) S
  | .bin op a b, r, S => (evE Γ a r S).bind fun x S => (evE Γ b r S).bind fun y S => binD op x y S
  | .neg a, r, S => (evE Γ a r S).bind fun x S => match x with
    | .int i => .ok (.int (-i)) S
    | _ => .bad
  | .not a, r, S => (evE Γ a r S).bind fun x S => match x with
    | .bl b => .ok (.bl (!b)) S
    | _ => .bad
  | .and a b, r, S => (evE Γ a r S).bind fun x S => truD x S (evE Γ b r) fun S => .ok (.bl false) S
  | .or a b, r, S => (evE Γ a r S).bind fun x S => truD x S (fun S => .ok (.bl true) S) (evE Γ b r)
  | .cmp op a b, r, S => (evE Γ a r S).bind fun x S => (evE Γ b r S).bind fun y S => cmpD op x y S
  | .cmp2 op op' a b c, r, S => (evE Γ a r S).bind fun x S => (evE Γ b r S).bind fun y S => (cmpD op x y S).bind fun t S =>
      truD t S (fun S => (evE Γ c r S).bind fun z S => cmpD op' y z S) fun S => .ok (.bl false) S
  | .ite t a b, r, S => (evE Γ t r S).bind fun x S => truD x S (evE Γ a r) (evE Γ b r)
  | .tup as, r, S => (evA Γ as r S).bind fun ds S => .ok (.tup ds) S
  | .lst as, r, S => (evA Γ as r S).bind fun ds S => newL ds S
  | .dct ks as, r, S => (evA Γ as r S).bind fun ds S => .ok (.ref S.length) (S ++ [.dic (ks.zip ds)])
  | .call f as, r, S => (evA Γ as r S).bind fun ds S => Γ.call f ds S
  | .blt f as, r, S => (evA Γ as r S).bind fun ds S => bltD f ds S
  | .mth m o as, r, S => (evE Γ o r S).bind fun x S => if m.ty == kindD x S then (evA Γ as r S).bind fun ds S => mthD m x ds S else .bad
  | .omth _ _ _ _, _, _ => .bad
  | .make _ _ _, _, _ => .bad
  | .idx a b, r, S => (evE Γ a r S).bind fun x S => (evE Γ b r S).bind fun y S => idxD x y S
  | .slc a lo hi, r, S => (evE Γ a r S).bind fun x S => (evB lo.isNo (evE Γ lo r) S).bind fun l S => (evB hi.isNo (evE Γ hi r) S).bind fun h S => slcD x l h S
  | .rev a, r, S => (evE Γ a r S).bind fun x S => revD x S
  | .fld _ _ _, _, _ => .bad
  | .lc tg it x cond elt, r, S => (evA Γ x r S).bind fun ds S => match srcOf it ds S with
    | some src => if src.len S ≤ lim then
        (lcL src (fun v S => match tg.set v (wipeD r tg.slots) with
          | some r' => (condD (evE Γ cond r' S) (evE Γ elt r')).noX
          | none => .bad) (src.len S) 0 [] S).bind fun ys S => newL ys S
      else .bad
    | none => .bad
  | .nil, _, _ => .bad
  | .cons _ _, _, _ => .bad
  | .no, _, S => .ok (.bl true) S
def evA (Γ : Cal) : C → Env → Store → Res (List D)
  | .nil, _, S => .ok [] S
  | .cons a as, r, S => (evE Γ a r S).bind fun x S => (evA Γ as r S).bind fun xs S => .ok (x :: xs) S
  | _, _, _ => .bad
end

def evS (Γ : Cal) (W : Nat) : K → Env → Store → Res Fl
  | .skip, r, S => .ok (.nx r) S
  | .seq a b, r, S => (evS Γ W a r S).bind fun f S => match f with
    | .nx r => evS Γ W b r S
    | .rt d => .ok (.rt d) S
    | .ct r => .ok (.ct r) S
  | .expr c, r, S => (evE Γ c r S).bind fun _ S => .ok (.nx r) S
  | .set i c, r, S => (evE Γ c r S).bind fun x S => .ok (.nx (r.set i (some x))) S
  | .unp is c, r, S => (evE Γ c r S).bind fun x S => match (Tg.many is).set x r with
    | some r' => .ok (.nx r') S
    | none => .bad
  | .par is as, r, S => (evA Γ as r S).bind fun ds S => match setAll is ds r with
    | some r' => .ok (.nx r') S
    | none => .bad
  | .put o i v, r, S => (evE Γ v r S).bind fun v S => (evE Γ o r S).bind fun x S => (evE Γ i r S).bind fun i S => match putD S x i v with
    | some S' => .ok (.nx r) S'
    | none => .bad
  | .setf _ _ _ _, _, _ => .bad
  | .ret c, r, S => (evE Γ c r S).bind fun x S => .ok (.rt x) S
  | .retN, _, S => .ok (.rt .non) S
  | .ife t a b, r, S => (evE Γ t r S).bind fun x S => truD x S (evS Γ W a r) (evS Γ W b r)
  | .whl t b, r, S => whlL (evE Γ t) (evS Γ W b) W r S
  | .for_ tg it x b, r, S => (evA Γ x r S).bind fun ds S => match srcOf it ds S with
    | some src => forL src (fun v r S => match tg.set v r with
        | some r' => evS Γ W b r' S
        | none => .bad) (src.len S) 0 r S
    | none => .bad
  | .rais c, _, S => .exc c S
  | .cont, r, S => .ok (.ct r) S
  | .dead, _, _ => .bad

structure Def where
  nps : Nat
  nsl : Nat
  body : K
def ends (r : Res Fl) : Res D :=
  r.bind fun f S => match f with
    | .nx _ => .ok .non S
    | .rt d => .ok d S
    | .ct _ => .bad
def runD (Γ : Cal) (W : Nat) (d : Def) (ds : List D) (S : Store) : Res D :=
  if ds.length = d.nps then ends (evS Γ W d.body (ds.map some ++ List.replicate (d.nsl - d.nps) none) S) else .bad
def callF (defs : Nat → Option Def) (W : Nat) : Nat → Nat → List D → Store → Res D
  | 0, _, _, _ => .bad
  | n + 1, f, ds, S => match defs f with
    | some d => runD ⟨callF defs W n⟩ W d ds S
    | none => .bad
end MP

namespace MP
open PySem L2

/-- what the written part says: the module's names, the classes -/
structure Gx where
  K : PySem.W.Frag
  mg : Str → Option Value
  cls : Nat → Addr

/-- a list from outside: locked, or of the written part -/
def ConAt (K : PySem.W.Frag) (H : Hp) (a : Addr) (vs : List V) : Prop :=
  (∃ ob, H a = some (.frz ob (.lst vs))) ∨
    ∃ (o : Obj) (its : Array Value) (n : Nat), K.lookup a = some o ∧ o.cls = .type "list" ∧ o.dict = none ∧ o.data = .seq its n ∧ its.size ≤ sizeLine ∧ Vals vs its.toList
theorem ConAt.sq {K : PySem.W.Frag} {H : Hp} {a : Addr} {vs : List V} (h : ConAt K H a vs) : SqL K H a vs := by
  rcases h with ⟨ob, h⟩ | h
  · exact .inl (.inr ⟨ob, h⟩)
  · exact .inr h
mutual
inductive Rep (G : Gx) (A : List Addr) (H : Hp) : D → V → Prop where
  | non : Rep G A H .non .non
  | bl (b : Bool) : Rep G A H (.bl b) (.bl b)
  | int (i : Int) : Rep G A H (.int i) (.int i)
  | str (x : Str) : Rep G A H (.str x) (.str x)
  | ty (n : String) : Rep G A H (.ty n) (.ty n)
  | own {x : Str} {a : Addr} : G.mg x = some (.ref a) → Rep G A H (.own x) (.ref a)
  | ref {n : Nat} {a : Addr} : A[n]? = some a → Rep G A H (.ref n) (.ref a)
  | tup {a : Addr} {xs : List D} {vs : List V} : H a = some (.tup vs) → RepL G A H xs vs → Rep G A H (.tup xs) (.ref a)
  | con {a : Addr} {xs : List D} {vs : List V} : ConAt G.K H a vs → RepL G A H xs vs → Rep G A H (.con xs) (.ref a)
inductive RepL (G : Gx) (A : List Addr) (H : Hp) : List D → List V → Prop where
  | nil : RepL G A H [] []
  | cons {d : D} {v : V} {ds : List D} {vs : List V} : Rep G A H d v → RepL G A H ds vs → RepL G A H (d :: ds) (v :: vs)
end

/-- what stands at an address of the store -/
def ORep (G : Gx) (A : List Addr) (H : Hp) (a : Addr) : O → Prop
  | .lst xs => ∃ vs, H a = some (.lst vs) ∧ RepL G A H xs vs
  | .dic kvs => ∃ vs : List (Key × V), H a = some (.dK vs) ∧ kvs.map (·.1) = vs.map (·.1) ∧ RepL G A H (kvs.map (·.2)) (vs.map (·.2))
  | .ins c fs => ∃ (dx : Addr) (vs : List (Str × V)), H a = some (.ins (G.cls c) dx vs) ∧ fs.map (·.1) = vs.map (·.1) ∧ RepL G A H (fs.map (·.2)) (vs.map (·.2))

structure SRel (G : Gx) (A : List Addr) (H : Hp) (S : Store) : Prop where
  len : A.length = S.length
  nd : A.Nodup
  obj : ∀ (n : Nat) o a, S[n]? = some o → A[n]? = some a → ORep G A H a o

/-- the state may have changed: more objects; what is not in the store stands -/
structure Ext (A : List Addr) (H : Hp) (A' : List Addr) (H' : Hp) : Prop where
  pre : ∃ B, A' = A ++ B ∧ ∀ b ∈ B, H b = none
  keep : ∀ p o, H p = some o → p ∉ A → H' p = some o

def ERel (G : Gx) (A : List Addr) (H : Hp) (r : Env) (s : St) : Prop :=
  r.length = s.length ∧ ∀ (i : Nat) d, r[i]? = some (some d) → ∃ v, s[i]? = some (some v) ∧ Rep G A H d v

section
variable {G : Gx} {A A' A1 A2 : List Addr} {H H' H1 H2 : Hp} {S S' : Store}

theorem RepL.length : ∀ {ds : List D} {vs : List V}, RepL G A H ds vs → ds.length = vs.length
  | _, _, .nil => rfl
  | _, _, .cons _ t => by simp [RepL.length t]
theorem RepL.get : ∀ {ds : List D} {vs : List V} {i : Nat} {d : D}, RepL G A H ds vs → ds[i]? = some d → ∃ v, vs[i]? = some v ∧ Rep G A H d v
  | _, _, _, _, .nil, e => by simp at e
  | _, _, 0, _, .cons r _, e => by simp at e; subst e; exact ⟨_, rfl, r⟩
  | _, _, i + 1, d, .cons _ t, e => by
    obtain ⟨v, h1, h2⟩ := RepL.get (i := i) (d := d) t (by simpa using e)
    exact ⟨v, by simpa using h1, h2⟩
theorem RepL.none_of {ds : List D} {vs : List V} {i : Nat} (r : RepL G A H ds vs) (e : ds[i]? = none) : vs[i]? = none := by
  have h1 := r.length
  have h2 : ds.length ≤ i := List.getElem?_eq_none_iff.mp e
  exact List.getElem?_eq_none_iff.mpr (by omega)
theorem RepL.append : ∀ {ds es : List D} {vs ws : List V}, RepL G A H ds vs → RepL G A H es ws → RepL G A H (ds ++ es) (vs ++ ws)
  | _, _, _, _, .nil, s => s
  | _, _, _, _, .cons r t, s => .cons r (RepL.append t s)
theorem RepL.take : ∀ {ds : List D} {vs : List V} (n : Nat), RepL G A H ds vs → RepL G A H (ds.take n) (vs.take n)
  | _, _, 0, _ => .nil
  | _, _, _ + 1, .nil => .nil
  | _, _, n + 1, .cons r t => .cons r (RepL.take n t)
theorem RepL.drop : ∀ {ds : List D} {vs : List V} (n : Nat), RepL G A H ds vs → RepL G A H (ds.drop n) (vs.drop n)
  | _, _, 0, r => r
  | _, _, _ + 1, .nil => .nil
  | _, _, n + 1, .cons _ t => RepL.drop n t
theorem RepL.reverse : ∀ {ds : List D} {vs : List V}, RepL G A H ds vs → RepL G A H ds.reverse vs.reverse
  | _, _, .nil => .nil
  | _, _, .cons r t => by simp only [List.reverse_cons]; exact (RepL.reverse t).append (.cons r .nil)
theorem RepL.set {d : D} {v : V} (q : Rep G A H d v) : ∀ {ds : List D} {vs : List V} (i : Nat), RepL G A H ds vs → RepL G A H (ds.set i d) (vs.set i v)
  | _, _, _, .nil => .nil
  | _, _, 0, .cons _ t => .cons q t
  | _, _, i + 1, .cons r t => .cons r (RepL.set q i t)
theorem RepL.flat : ∀ (n : Nat) {ds : List D} {vs : List V}, RepL G A H ds vs → RepL G A H (List.replicate n ds).flatten (List.replicate n vs).flatten
  | 0, _, _, _ => .nil
  | n + 1, _, _, r => by simp only [List.replicate_succ, List.flatten_cons]; exact r.append (RepL.flat n r)

theorem SRel.thereS (R : SRel G A H S) {n : Nat} {a : Addr} (e : A[n]? = some a) : ∃ o, S[n]? = some o ∧ ORep G A H a o := by
  have h1 : n < A.length := by
    rcases Nat.lt_or_ge n A.length with h | h
    · exact h
    · rw [List.getElem?_eq_none h] at e; cases e
  have h2 : n < S.length := by rw [← R.len]; exact h1
  exact ⟨S[n], by simp [h2], R.obj n _ a (by simp [h2]) e⟩
theorem ORep.there {a : Addr} {o : O} (h : ORep G A H a o) : ∃ u, H a = Option.some u ∧ (∀ vs, u ≠ .tup vs) ∧ ∀ ob vs, u ≠ .frz ob vs := by
  cases o with
  | lst xs => obtain ⟨vs, e, _⟩ := h; exact ⟨_, e, by simp, by simp⟩
  | dic kvs => obtain ⟨vs, e, _⟩ := h; exact ⟨_, e, by simp, by simp⟩
  | ins c fs => obtain ⟨dx, vs, e, _⟩ := h; exact ⟨_, e, by simp, by simp⟩
theorem SRel.mem (R : SRel G A H S) {a : Addr} (h : a ∈ A) : ∃ u, H a = Option.some u ∧ (∀ vs, u ≠ .tup vs) ∧ ∀ ob vs, u ≠ .frz ob vs := by
  obtain ⟨n, e⟩ := List.mem_iff_getElem?.mp h
  obtain ⟨o, _, q⟩ := R.thereS e
  exact q.there
theorem SRel.not_tup (R : SRel G A H S) {a : Addr} {vs : List V} (h : H a = Option.some (.tup vs)) : a ∉ A := fun z => by
  obtain ⟨u, e, n, _⟩ := R.mem z
  rw [h] at e; cases e; exact n vs rfl
theorem SRel.not_frz (R : SRel G A H S) {a : Addr} {ob : Obj} {u : HO} (h : H a = Option.some (.frz ob u)) : a ∉ A := fun z => by
  obtain ⟨u', e, _, n⟩ := R.mem z
  rw [h] at e; cases e; exact n _ _ rfl
theorem SRel.not_none (R : SRel G A H S) {a : Addr} (h : H a = none) : a ∉ A := fun z => by
  obtain ⟨u', e, _, n⟩ := R.mem z
  rw [h] at e; cases e

theorem Ext.refl : Ext A H A H := ⟨⟨[], by simp, by simp⟩, fun _ _ h _ => h⟩
theorem Ext.ix (E : Ext A H A' H') {n : Nat} {a : Addr} (e : A[n]? = Option.some a) : A'[n]? = Option.some a := by
  obtain ⟨B, rfl, _⟩ := E.pre
  rw [List.getElem?_append_left]
  · exact e
  · rcases Nat.lt_or_ge n A.length with h | h
    · exact h
    · rw [List.getElem?_eq_none h] at e; cases e
mutual
theorem Rep.ext (R : SRel G A H S) (E : Ext A H A' H') : ∀ {d : D} {v : V}, Rep G A H d v → Rep G A' H' d v
  | _, _, .non => .non
  | _, _, .bl b => .bl b
  | _, _, .int i => .int i
  | _, _, .str x => .str x
  | _, _, .ty n => .ty n
  | _, _, .own h => .own h
  | _, _, .ref h => .ref (E.ix h)
  | _, _, .tup h t => .tup (E.keep _ _ h (R.not_tup h)) (RepL.ext R E t)
  | _, _, .con h t => .con (by
      rcases h with ⟨ob, h⟩ | h
      · exact .inl ⟨ob, E.keep _ _ h (R.not_frz h)⟩
      · exact .inr h) (RepL.ext R E t)
theorem RepL.ext (R : SRel G A H S) (E : Ext A H A' H') : ∀ {ds : List D} {vs : List V}, RepL G A H ds vs → RepL G A' H' ds vs
  | _, _, .nil => .nil
  | _, _, .cons r t => .cons (Rep.ext R E r) (RepL.ext R E t)
end
theorem ERel.ext {r : Env} {s : St} (R : SRel G A H S) (E : Ext A H A' H') (h : ERel G A H r s) : ERel G A' H' r s :=
  ⟨h.1, fun i d e => let ⟨v, e1, e2⟩ := h.2 i d e; ⟨v, e1, e2.ext R E⟩⟩
theorem Ext.trans (R : SRel G A H S) (R1 : SRel G A1 H1 S') (E : Ext A H A1 H1) (E' : Ext A1 H1 A2 H2) : Ext A H A2 H2 := by
  obtain ⟨B, rfl, hB⟩ := E.pre
  obtain ⟨C, rfl, hC⟩ := E'.pre
  refine ⟨⟨B ++ C, by simp, fun b hb => ?_⟩, fun p o h n => E'.keep p o (E.keep p o h n) fun z => ?_⟩
  · rcases List.mem_append.mp hb with hb | hb
    · exact hB b hb
    · cases q : H b with
      | none => rfl
      | some u =>
        have z := hC b hb
        by_cases hA : b ∈ A
        · exact absurd z (by
            obtain ⟨w, e, _⟩ := R1.mem (List.mem_append_left _ hA)
            rw [e]; simp)
        · rw [E.keep b u q hA] at z; cases z
  · rcases List.mem_append.mp z with z | z
    · exact n z
    · rw [hB p z] at h; cases h

theorem ORep.mono {a : Addr} {o : O} (R : SRel G A H S) (E : Ext A H A' H') (h : ORep G A H a o) (hk : H' a = H a) : ORep G A' H' a o := by
  cases o with
  | lst xs => obtain ⟨vs, e, q⟩ := h; exact ⟨vs, by rw [hk]; exact e, q.ext R E⟩
  | dic kvs => obtain ⟨vs, e, k, q⟩ := h; exact ⟨vs, by rw [hk]; exact e, k, q.ext R E⟩
  | ins c fs => obtain ⟨dx, vs, e, k, q⟩ := h; exact ⟨dx, vs, by rw [hk]; exact e, k, q.ext R E⟩

/-- something is laid that is not in the store -/
theorem ext_laid {p : Addr} {u : HO} (hp : H p = none) : Ext A H A (upd H p u) :=
  ⟨⟨[], by simp, by simp⟩, fun q o h _ => by rw [upd_ne (ne_of_none h hp)]; exact h⟩
theorem SRel.laid {p : Addr} {u : HO} (R : SRel G A H S) (hp : H p = none) : SRel G A (upd H p u) S :=
  ⟨R.len, R.nd, fun n o a h1 h2 => (R.obj n o a h1 h2).mono R (ext_laid hp) (by
    obtain ⟨w, e, _⟩ := (R.obj n o a h1 h2).there
    exact upd_ne (ne_of_none e hp))⟩
/-- a new object of the store -/
theorem ext_new {p : Addr} {u : HO} (hp : H p = none) : Ext A H (A ++ [p]) (upd H p u) :=
  ⟨⟨[p], rfl, fun b hb => by rw [List.mem_singleton.mp hb]; exact hp⟩, fun q o h _ => by rw [upd_ne (ne_of_none h hp)]; exact h⟩
theorem SRel.new {p : Addr} {u : HO} {o : O} (R : SRel G A H S) (hp : H p = none) (ho : ORep G (A ++ [p]) (upd H p u) p o) : SRel G (A ++ [p]) (upd H p u) (S ++ [o]) := by
  refine ⟨by simp [R.len], ?_, fun n o' a h1 h2 => ?_⟩
  · rw [List.nodup_append]
    refine ⟨R.nd, by simp, fun x hx y hy => ?_⟩
    rw [List.mem_singleton.mp hy]
    rintro rfl
    exact R.not_none hp hx
  · rcases Nat.lt_or_ge n S.length with hn | hn
    · rw [List.getElem?_append_left hn] at h1
      rw [List.getElem?_append_left (by rw [R.len]; exact hn)] at h2
      refine (R.obj n o' a h1 h2).mono R (ext_new hp) ?_
      obtain ⟨w, e, _⟩ := (R.obj n o' a h1 h2).there
      exact upd_ne (ne_of_none e hp)
    · rw [List.getElem?_append_right hn] at h1
      rw [List.getElem?_append_right (by rw [R.len]; exact hn), R.len] at h2
      have h3 : n - S.length = 0 := by
        rcases Nat.eq_zero_or_pos (n - S.length) with z | z
        · exact z
        · rw [List.getElem?_eq_none (show [o].length ≤ n - S.length from z)] at h1; cases h1
      rw [h3] at h1 h2
      simp at h1 h2
      subst h1 h2
      exact ho
theorem new_ix (R : SRel G A H S) (p : Addr) : (A ++ [p])[S.length]? = Option.some p := by
  rw [← R.len]; simp
/-- an object of the store is changed -/
theorem ext_put {n : Nat} {a : Addr} {u : HO} (e : A[n]? = Option.some a) : Ext A H A (upd H a u) :=
  ⟨⟨[], by simp, by simp⟩, fun q o h hn => by
    rw [upd_ne fun z => hn (by rw [z]; exact List.mem_iff_getElem?.mpr ⟨n, e⟩)]; exact h⟩
theorem SRel.put {n : Nat} {a : Addr} {u : HO} {o : O} (R : SRel G A H S) (e : A[n]? = Option.some a) (ho : ORep G A (upd H a u) a o) : SRel G A (upd H a u) (S.set n o) := by
  refine ⟨by simp [R.len], R.nd, fun m o' b h1 h2 => ?_⟩
  by_cases hm : n = m
  · subst hm
    have hl : n < S.length := by
      rcases Nat.lt_or_ge n S.length with h | h
      · exact h
      · rw [List.getElem?_eq_none (by rw [R.len]; exact h)] at e; cases e
    rw [List.getElem?_set_self hl] at h1
    cases h1
    rw [e] at h2; cases h2
    exact ho
  · rw [List.getElem?_set_ne hm] at h1
    refine (R.obj m o' b h1 h2).mono R (ext_put e) ?_
    refine upd_ne fun z => hm ?_
    subst z
    have l1 : n < A.length := by
      rcases Nat.lt_or_ge n A.length with h | h
      · exact h
      · rw [List.getElem?_eq_none h] at e; cases e
    have l2 : m < A.length := by
      rcases Nat.lt_or_ge m A.length with h | h
      · exact h
      · rw [List.getElem?_eq_none h] at h2; cases h2
    exact (List.getElem?_inj l1 R.nd).mp (e.trans h2.symm)
end
end MP

namespace MP
open PySem L2

/-- what is wanted behind a run -/
def Fin {α β : Type} (P : List Addr → Hp → α → β → Prop) (G : Gx) (A : List Addr) (H : Hp) (r : Res α) (Q : β → Hp → Prop) (E : XK) : Prop :=
  match r with
  | .ok d S' => ∀ A' H' v, Ext A H A' H' → SRel G A' H' S' → P A' H' d v → Q v H'
  | .exc c S' => ∀ A' H' C, Ext A H A' H' → SRel G A' H' S' → G.mg c = some (.ref C) → E (.ref C) none H'
  | .bad => False
abbrev FinE (G : Gx) := Fin (Rep G) G
abbrev FinA (G : Gx) := Fin (RepL G) G
/-- a truth: the value is a bool -/
abbrev FinT (G : Gx) := Fin (fun _ _ (d : D) (b : Bool) => d = .bl b) G

section
variable {α β γ δ : Type} {P : List Addr → Hp → α → β → Prop} {P' : List Addr → Hp → γ → δ → Prop} {G : Gx} {A A1 : List Addr} {H H1 : Hp} {S S1 : Store} {E : XK}

theorem Fin.mono {r : Res α} {Q : β → Hp → Prop} (R : SRel G A H S) (R1 : SRel G A1 H1 S1) (X : Ext A H A1 H1) (h : Fin P G A H r Q E) : Fin P G A1 H1 r Q E := by
  cases r with
  | ok d S' => exact fun A' H' v e q p => h A' H' v (X.trans R R1 e) q p
  | exc c S' => exact fun A' H' C e q p => h A' H' C (X.trans R R1 e) q p
  | bad => exact h
theorem Fin.bind {r : Res α} {f : α → Store → Res γ} {Q : δ → Hp → Prop} {Q' : β → Hp → Prop} (R : SRel G A H S) (h : Fin P' G A H (r.bind f) Q E)
    (k : ∀ d S1 A1 H1 v, r = .ok d S1 → Ext A H A1 H1 → SRel G A1 H1 S1 → P A1 H1 d v → Fin P' G A1 H1 (f d S1) Q E → Q' v H1) : Fin P G A H r Q' E := by
  cases r with
  | ok d S' => exact fun A' H' v e q p => k d S' A' H' v rfl e q p (Fin.mono R q e h)
  | exc c S' => exact h
  | bad => exact h
theorem Fin.here {d : α} {v : β} {Q : β → Hp → Prop} (R : SRel G A H S) (h : Fin P G A H (.ok d S) Q E) (p : P A H d v) : Q v H := h A H v .refl R p
end

/-- where a body runs -/
structure Xok (G : Gx) (X : Cx) (n : Nat) : Prop where
  K : X.K = G.K
  mg : X.mg = G.mg
  calm : X.calm = true
  nd : X.N.Nodup
  room : Room n X.A
  gd : X.A.guards = some []
theorem Xok.u64 {G : Gx} {X : Cx} {n : Nat} (h : Xok G X n) : X.A.units + 64 < cLine := h.room.units
theorem Xok.u0 {G : Gx} {X : Cx} {n : Nat} (h : Xok G X n) : X.A.units < cLine := h.room.units0

/-- the code c tells what the expression e does -/
def SE (G : Gx) (X : Cx) (E : XK) (Γ : Cal) (c : C) (e : Expr) : Prop :=
  ∃ t, PE X e t ∧ ∀ r s A H S Q, ERel G A H r s → SRel G A H S → FinE G A H (evE Γ c r S) Q E → t s H Q
def STt (G : Gx) (X : Cx) (E : XK) (Γ : Cal) (c : C) (e : Expr) : Prop :=
  ∃ t, PT X e t ∧ ∀ r s A H S Q, ERel G A H r s → SRel G A H S → FinT G A H (evE Γ c r S) Q E → t s H Q
def SA (G : Gx) (X : Cx) (E : XK) (Γ : Cal) (c : C) (es : List Expr) : Prop :=
  ∃ t, PA X es t ∧ ∀ r s A H S Q, ERel G A H r s → SRel G A H S → FinA G A H (evA Γ c r S) Q E → t s H Q

section
variable {G : Gx} {X : Cx} {E : XK} {Γ : Cal} {n : Nat} {a b c : C} {ea eb ec : Expr} {pos : Pos}

theorem se_var {i : Nat} {x : Str} (hN : X.N[i]? = some x) (hv : Vis X.env.scope x) (hd : (x == ("__debug__" : Str)) = false) (hcd : (x == ("__classdict__" : Str)) = false) : SE G X E Γ (.var i) (.Name x pos) := by
  refine ⟨_, pe_var hN hv hd hcd, fun r s A H S Q er R h => ?_⟩
  simp only [evE] at h
  cases q : r[i]? with
  | none => rw [q] at h; exact h.elim
  | some o =>
    cases o with
    | none => rw [q] at h; exact h.elim
    | some d =>
      rw [q] at h
      obtain ⟨v, e1, e2⟩ := er.2 i d q
      exact ⟨v, e1, h.here R e2⟩
theorem se_int {i : Int} {j : Nat} : SE G X E Γ (.val (.int i)) (.Constant (.int i) j pos) := ⟨_, pe_int, fun r s A H S Q er R h => h.here R (.int i)⟩
theorem se_bl {i : Bool} {j : Nat} : SE G X E Γ (.val (.bl i)) (.Constant (.bool i) j pos) := ⟨_, pe_bl, fun r s A H S Q er R h => h.here R (.bl i)⟩
theorem se_non {j : Nat} : SE G X E Γ (.val .non) (.Constant .none j pos) := ⟨_, pe_non, fun r s A H S Q er R h => h.here R .non⟩
theorem se_str {i : Str} {j : Nat} : SE G X E Γ (.val (.str i)) (.Constant (.str i) j pos) := ⟨_, pe_str, fun r s A H S Q er R h => h.here R (.str i)⟩
/-- a module's own int -/
theorem se_glo {x : Str} {i : Int} {t : Tok} (hg : Gl X x) (hm : X.mg x = some (.int i t)) (hd : (x == ("__debug__" : Str)) = false) : SE G X E Γ (.glo x (.int i)) (.Name x pos) :=
  ⟨_, pe_glob (v := .int i) hg hm ⟨t, rfl⟩ hd, fun r s A H S Q er R h => h.here R (.int i)⟩
theorem se_own {x : Str} {a : Addr} (hg : Gl X x) (hm : X.mg x = some (.ref a)) (hG : X.mg = G.mg) (hd : (x == ("__debug__" : Str)) = false) : SE G X E Γ (.glo x (.own x)) (.Name x pos) :=
  ⟨_, pe_glob (v := .ref a) hg hm rfl hd, fun r s A H S Q er R h => h.here R (.own (by rw [← hG]; exact hm))⟩
theorem se_bty {x : Str} {T : String} (hg : Gl X x) (hm : X.mg x = none) (hv : bootBuiltins x = some (.type T)) (hn : x ≠ "__name__") (hd : (x == ("__debug__" : Str)) = false) : SE G X E Γ (.bty T) (.Name x pos) :=
  ⟨_, pe_bltn (v := .ty T) hg hm hv rfl hn hd, fun r s A H S Q er R h => h.here R (.ty T)⟩

/-! ### operators by values -/
/-- the rule r does what g tells -/
def OpOk (G : Gx) (r : R2) (g : D → D → Store → Res D) : Prop :=
  ∀ A H S x y v u Q E, SRel G A H S → Rep G A H x v → Rep G A H y u → FinE G A H (g x y S) Q E → r v u H Q
theorem se_bin2 {op : Operator} {r : R2} (ho : OpR X (binaryOp op) r) (hk : OpOk G r (binD op)) (ha : SE G X E Γ a ea) (hb : SE G X E Γ b eb) : SE G X E Γ (.bin op a b) (.BinOp ea op eb pos) := by
  obtain ⟨ta, pa, qa⟩ := ha
  obtain ⟨tb, pb, qb⟩ := hb
  refine ⟨_, pe_op ho pa pb, fun r s A H S Q er R h => ?_⟩
  simp only [evE] at h
  refine qa r s A H S _ er R (h.bind R fun x S1 A1 H1 v _ e1 R1 p1 h1 => ?_)
  refine qb r s A1 H1 S1 _ (er.ext R e1) R1 (h1.bind R1 fun y S2 A2 H2 u _ e2 R2 p2 h2 => ?_)
  exact hk A2 H2 S2 x y v u Q E R2 (p1.ext R1 e2) p2 h2
theorem se_cmp2 {op : CmpOp} {r : R2} (ho : OpR X (compareOp op) r) (hk : OpOk G r (cmpD op)) (hm : behindInMarks op eb = false) (ha : SE G X E Γ a ea) (hb : SE G X E Γ b eb) : SE G X E Γ (.cmp op a b) (.Compare ea [op] [eb] pos) := by
  obtain ⟨ta, pa, qa⟩ := ha
  obtain ⟨tb, pb, qb⟩ := hb
  refine ⟨_, pe_cmpR ho pa pb hm, fun r s A H S Q er R h => ?_⟩
  simp only [evE] at h
  refine qa r s A H S _ er R (h.bind R fun x S1 A1 H1 v _ e1 R1 p1 h1 => ?_)
  refine qb r s A1 H1 S1 _ (er.ext R e1) R1 (h1.bind R1 fun y S2 A2 H2 u _ e2 R2 p2 h2 => ?_)
  exact hk A2 H2 S2 x y v u Q E R2 (p1.ext R1 e2) p2 h2
end
end MP

namespace MP
open PySem L2

section
variable {G : Gx} {A : List Addr} {H : Hp} {S : Store}
theorem rep_int {i : Int} {v : V} (h : Rep G A H (.int i) v) : v = .int i := by cases h; rfl
theorem rep_bl {i : Bool} {v : V} (h : Rep G A H (.bl i) v) : v = .bl i := by cases h; rfl
theorem rep_str {i : Str} {v : V} (h : Rep G A H (.str i) v) : v = .str i := by cases h; rfl
theorem rep_tup {xs : List D} {v : V} (h : Rep G A H (.tup xs) v) : ∃ a vs, v = .ref a ∧ H a = some (.tup vs) ∧ RepL G A H xs vs := by
  cases h with
  | tup h t => exact ⟨_, _, rfl, h, t⟩
theorem rep_ref {n : Nat} {v : V} (h : Rep G A H (.ref n) v) : ∃ a, v = .ref a ∧ A[n]? = some a := by
  cases h with
  | ref h => exact ⟨_, rfl, h⟩
theorem rep_lst {n : Nat} {v : V} {xs : List D} (R : SRel G A H S) (h : Rep G A H (.ref n) v) (e : S[n]? = some (.lst xs)) : ∃ a vs, v = .ref a ∧ A[n]? = some a ∧ H a = some (.lst vs) ∧ RepL G A H xs vs := by
  obtain ⟨a, rfl, h1⟩ := rep_ref h
  obtain ⟨vs, h2, h3⟩ := R.obj n _ a e h1
  exact ⟨a, vs, rfl, h1, h2, h3⟩
theorem rep_dic {n : Nat} {v : V} {kvs : List (Key × D)} (R : SRel G A H S) (h : Rep G A H (.ref n) v) (e : S[n]? = some (.dic kvs)) : ∃ (a : Addr) (vs : List (Key × V)), v = .ref a ∧ A[n]? = some a ∧ H a = some (.dK vs) ∧ kvs.map (·.1) = vs.map (·.1) ∧ RepL G A H (kvs.map (·.2)) (vs.map (·.2)) := by
  obtain ⟨a, rfl, h1⟩ := rep_ref h
  obtain ⟨vs, h2, h3, h4⟩ := R.obj n _ a e h1
  exact ⟨a, vs, rfl, h1, h2, h3, h4⟩
theorem lstOf_rep {d : D} {v : V} {xs : List D} (R : SRel G A H S) (h : Rep G A H d v) (e : lstOf S d = some xs) : ∃ a vs, v = .ref a ∧ SqL G.K H a vs ∧ RepL G A H xs vs := by
  cases d with
  | con ys =>
    simp only [lstOf] at e
    cases e
    cases h with
    | con h t => exact ⟨_, _, rfl, h.sq, t⟩
  | ref n =>
    simp only [lstOf] at e
    split at e
    · rename_i ys q
      cases e
      obtain ⟨a, vs, rfl, _, h2, h3⟩ := rep_lst R h q
      exact ⟨a, vs, rfl, .of h2, h3⟩
    · cases e
  | _ => simp [lstOf] at e
theorem seqOf_rep {d : D} {v : V} {xs : List D} (R : SRel G A H S) (h : Rep G A H d v) (e : seqOf S d = some xs) : ∃ a vs, v = .ref a ∧ (SqL G.K H a vs ∨ SqT G.K H a vs) ∧ RepL G A H xs vs := by
  cases d with
  | tup ys =>
    simp only [seqOf] at e
    cases e
    obtain ⟨a, vs, rfl, h1, h2⟩ := rep_tup h
    exact ⟨a, vs, rfl, .inr (.of h1), h2⟩
  | con ys =>
    obtain ⟨a, vs, h1, h2, h3⟩ := lstOf_rep (xs := xs) R h (by simpa [lstOf, seqOf] using e)
    exact ⟨a, vs, h1, .inl h2, h3⟩
  | ref n =>
    obtain ⟨a, vs, h1, h2, h3⟩ := lstOf_rep (xs := xs) R h (by simpa [lstOf, seqOf] using e)
    exact ⟨a, vs, h1, .inl h2, h3⟩
  | _ => simp [seqOf] at e
theorem dictOf_rep {d : D} {v : V} {kvs : List (Key × D)} (R : SRel G A H S) (h : Rep G A H d v) (e : dictOf S d = some kvs) : ∃ (a : Addr) (vs : List (Key × V)), v = .ref a ∧ H a = some (.dK vs) ∧ kvs.map (·.1) = vs.map (·.1) ∧ RepL G A H (kvs.map (·.2)) (vs.map (·.2)) := by
  cases d with
  | ref n =>
    simp only [dictOf] at e
    split at e
    · rename_i ys q
      cases e
      obtain ⟨a, vs, h1, _, h3⟩ := rep_dic R h q
      exact ⟨a, vs, h1, h3⟩
    · cases e
  | _ => simp [dictOf] at e
theorem intsOf_rep : ∀ {xs : List D} {vs : List V} {ns : List Int}, RepL G A H xs vs → intsOf xs = some ns → vs = ns.map V.int
  | _, _, _, .nil, e => by simp [intsOf] at e; subst e; rfl
  | _, _, ns, .cons (d := d) r t, e => by
    cases d with
    | int i =>
      simp only [intsOf, Option.map_eq_some_iff] at e
      obtain ⟨ms, e1, rfl⟩ := e
      rw [rep_int r, intsOf_rep t e1]; rfl
    | _ => simp [intsOf] at e
theorem blsOf_rep : ∀ {xs : List D} {vs : List V} {ns : List Bool}, RepL G A H xs vs → blsOf xs = some ns → vs = ns.map V.bl
  | _, _, _, .nil, e => by simp [blsOf] at e; subst e; rfl
  | _, _, ns, .cons (d := d) r t, e => by
    cases d with
    | bl i =>
      simp only [blsOf, Option.map_eq_some_iff] at e
      obtain ⟨ms, e1, rfl⟩ := e
      rw [rep_bl r, blsOf_rep t e1]; rfl
    | _ => simp [blsOf] at e
/-- a new tuple -/
theorem fin_tup {xs : List D} {vs : List V} {Q : VK} {E : XK} (R : SRel G A H S) (h : FinE G A H (.ok (.tup xs) S) Q E) (r : RepL G A H xs vs) (p : Addr) (hp : H p = none) : Q (.ref p) (upd H p (.tup vs)) :=
  h A _ _ (ext_laid hp) (R.laid hp) (.tup upd_same (r.ext R (ext_laid hp)))
/-- a new list -/
theorem fin_lst {xs : List D} {vs : List V} {Q : VK} {E : XK} (R : SRel G A H S) (h : FinE G A H (newL xs S) Q E) (r : RepL G A H xs vs) (p : Addr) (hp : H p = none) : Q (.ref p) (upd H p (.lst vs)) :=
  h (A ++ [p]) _ _ (ext_new hp) (R.new hp ⟨vs, upd_same, r.ext R (ext_new hp)⟩) (.ref (new_ix R p))
theorem lim_eq : lim = sizeLine := by rw [sizeLine_eq]; rfl
end

theorem op_false {X : Cx} {f : Value → Value → Sem Value} : OpR X f (fun _ _ _ _ => False) := fun _ _ _ _ _ _ _ _ _ _ _ _ h => h.elim
section
variable {G : Gx} {X : Cx} {n : Nat}
theorem bin_add (xo : Xok G X n) : ∃ r, OpR X (binaryOp .Add) r ∧ OpOk G r (binD .Add) := by
  refine ⟨_, op_add.or (op_catA.or (op_add_str.or op_cat)), fun A H S x y v u Q E R hx hy h => ?_⟩
  cases x <;> try exact h.elim
  case int i =>
    cases y <;> try exact h.elim
    case int j =>
      rw [rep_int hx, rep_int hy]
      exact .inl ⟨i, j, rfl, rfl, h.here R (.int _)⟩
  case str i =>
    cases y <;> try exact h.elim
    case str j =>
      rw [rep_str hx, rep_str hy]
      simp only [binD] at h
      split at h
      · rename_i hl
        exact .inr (.inr (.inl ⟨i, j, rfl, rfl, by rw [← lim_eq]; exact hl, h.here R (.str _)⟩))
      · exact h.elim
  case tup xs =>
    cases y <;> try exact h.elim
    case tup ys =>
      simp only [binD] at h
      split at h
      · rename_i hl
        obtain ⟨a, vs, rfl, h1, h2⟩ := rep_tup hx
        obtain ⟨b, ws, rfl, h3, h4⟩ := rep_tup hy
        have l1 := h2.length
        have l2 := h4.length
        refine .inr (.inl ⟨a, b, vs, ws, rfl, rfl, .of h1, .of h3, by rw [← lim_eq]; omega, fun e => ?_, fun e e' => ?_, fun e e' p hp => fin_tup R h (h2.append h4) p hp⟩)
        · subst e
          have : xs = [] := List.length_eq_zero_iff.mp (by simpa using l1)
          subst this
          exact h.here R hy
        · subst e'
          have : ys = [] := List.length_eq_zero_iff.mp (by simpa using l2)
          subst this
          rw [List.append_nil] at h
          exact h.here R hx
      · exact h.elim
  case ref m =>
    cases y <;> try exact h.elim
    case ref k =>
      simp only [binD] at h
      split at h
      · rename_i xs ys e1 e2
        split at h
        · rename_i hl
          obtain ⟨a, vs, rfl, _, h1, h2⟩ := rep_lst R hx e1
          obtain ⟨b, ws, rfl, _, h3, h4⟩ := rep_lst R hy e2
          have l1 := h2.length
          have l2 := h4.length
          exact .inr (.inr (.inr ⟨a, b, vs, ws, rfl, rfl, h1, h3, by rw [← lim_eq]; omega, fun p hp => fin_lst R h (h2.append h4) p hp⟩))
        · exact h.elim
      · exact h.elim
theorem bin_sub (xo : Xok G X n) : ∃ r, OpR X (binaryOp .Sub) r ∧ OpOk G r (binD .Sub) := by
  refine ⟨_, op_sub, fun A H S x y v u Q E R hx hy h => ?_⟩
  cases x <;> try exact h.elim
  case int i =>
    cases y <;> try exact h.elim
    case int j =>
      rw [rep_int hx, rep_int hy]
      exact ⟨i, j, rfl, rfl, h.here R (.int _)⟩
theorem mulOk_c {i j : Int} (h : mulOk i j = true) : CMul i j := by
  unfold mulOk p64 at h
  unfold CMul
  simp only [Bool.or_eq_true, Bool.and_eq_true, decide_eq_true_eq] at h
  have e : (2 : Int) ^ 64 = 18446744073709551616 := by decide
  rw [e]
  exact h
theorem bin_mul (xo : Xok G X n) : ∃ r, OpR X (binaryOp .Mult) r ∧ OpOk G r (binD .Mult) := by
  refine ⟨_, op_mul.or (op_repT.or op_rep), fun A H S x y v u Q E R hx hy h => ?_⟩
  cases x <;> try exact h.elim
  case int i =>
    cases y <;> try exact h.elim
    case int j =>
      simp only [binD] at h
      split at h
      · rename_i hc
        rw [rep_int hx, rep_int hy]
        exact .inl ⟨i, j, rfl, rfl, mulOk_c hc, h.here R (.int _)⟩
      · exact h.elim
  case tup xs =>
    cases y <;> try exact h.elim
    case int k =>
      simp only [binD] at h
      split at h
      · rename_i hc
        obtain ⟨c1, c2, c3, c4⟩ := hc
        obtain ⟨a, vs, rfl, h1, h2⟩ := rep_tup hx
        have l1 := h2.length
        rw [rep_int hy]
        refine .inr (.inl ⟨a, k, vs, rfl, rfl, by rw [xo.K]; exact .of h1, fun e => ?_, c2, c3, by omega, fun p hp => fin_tup R h (h2.flat _) p hp⟩)
        subst e
        exact c1 (List.length_eq_zero_iff.mp (by simpa using l1))
      · exact h.elim
  case ref m =>
    cases y <;> try exact h.elim
    case int k =>
      simp only [binD] at h
      split at h
      · rename_i xs e1
        split at h
        · rename_i hc
          obtain ⟨c2, c3, c4⟩ := hc
          obtain ⟨a, vs, rfl, _, h1, h2⟩ := rep_lst R hx e1
          have l1 := h2.length
          rw [rep_int hy]
          refine .inr (.inr ⟨a, k, vs, rfl, rfl, h1, by omega, by omega, ?_, fun p hp => fin_lst R h (h2.flat _) p hp⟩)
          rw [sizeLine_eq]
          have : vs.length * k.toNat ≤ 1000 * 1000 := Nat.mul_le_mul (by omega) (by omega)
          omega
        · exact h.elim
      · exact h.elim
theorem bin_div (xo : Xok G X n) : ∃ r, OpR X (binaryOp .FloorDiv) r ∧ OpOk G r (binD .FloorDiv) := by
  refine ⟨_, op_fdiv, fun A H S x y v u Q E R hx hy h => ?_⟩
  cases x <;> try exact h.elim
  case int i =>
    cases y <;> try exact h.elim
    case int j =>
      simp only [binD] at h
      split at h
      · rename_i hc
        rw [rep_int hx, rep_int hy]
        exact ⟨i, j, rfl, rfl, hc, h.here R (.int _)⟩
      · exact h.elim
theorem bin_mod (xo : Xok G X n) : ∃ r, OpR X (binaryOp .Mod) r ∧ OpOk G r (binD .Mod) := by
  refine ⟨_, op_mod, fun A H S x y v u Q E R hx hy h => ?_⟩
  cases x <;> try exact h.elim
  case int i =>
    cases y <;> try exact h.elim
    case int j =>
      simp only [binD] at h
      split at h
      · rename_i hc
        rw [rep_int hx, rep_int hy]
        exact ⟨i, j, rfl, rfl, hc, h.here R (.int _)⟩
      · exact h.elim
theorem bin_pow (xo : Xok G X n) : ∃ r, OpR X (binaryOp .Pow) r ∧ OpOk G r (binD .Pow) := by
  refine ⟨_, op_pow, fun A H S x y v u Q E R hx hy h => ?_⟩
  cases x <;> try exact h.elim
  case int i =>
    cases y <;> try exact h.elim
    case int j =>
      simp only [binD] at h
      split at h
      · rename_i hc
        rw [rep_int hx, rep_int hy]
        exact ⟨i, j, rfl, rfl, ⟨hc.1, by omega, by omega⟩, h.here R (.int _)⟩
      · exact h.elim
theorem bin_ok (xo : Xok G X n) (op : Operator) : ∃ r, OpR X (binaryOp op) r ∧ OpOk G r (binD op) := by
  cases op with
  | Add => exact bin_add xo
  | Sub => exact bin_sub xo
  | Mult => exact bin_mul xo
  | FloorDiv => exact bin_div xo
  | Mod => exact bin_mod xo
  | Pow => exact bin_pow xo
  | _ => exact ⟨_, op_false, fun A H S x y v u Q E R hx hy h => by cases x <;> cases y <;> exact h.elim⟩
end
end MP

namespace MP
open PySem L2

theorem mapM_some {α β : Type} {g : α → Option β} : ∀ {xs : List α} {ps : List β}, xs.mapM g = some ps → Paired (fun x p => g x = some p) xs ps
  | [], ps, h => by simp at h; subst h; exact .nil
  | x :: xs, ps, h => by
    rw [List.mapM_cons] at h
    cases e : g x with
    | none => rw [e] at h; cases h
    | some p =>
      rw [e] at h
      cases e2 : xs.mapM g with
      | none => rw [e2] at h; cases h
      | some qs =>
        rw [e2] at h
        cases h
        exact .cons e (mapM_some e2)

/-- of the base: where sys.modules stands -/
def SmOk (base : Heap) : Prop := ∃ o es n, base.get? sysModules = some o ∧ o.data = .dict es n
section
variable {G : Gx} {X : Cx} {A : List Addr} {H : Hp} {S : Store} {pins : List (Addr × Obj)} {σ : St} {s : Shared}

theorem not_sm {a : Addr} {u : HO} (sm : SmOk X.base) (I : Inv X pins σ H s) (h : H a = some u) : sysModules ≠ a := by
  obtain ⟨o, es, n, h1, _⟩ := sm
  intro z
  have := (I.bs _ _ h1).2
  rw [z, h] at this
  cases this
theorem readsAll_of {g : D → Option PyData} (hg : ∀ d p v u, g d = some p → Rep G A H d v → RelV v u → ∃ as, Reads s.heap u p as ∧ sysModules ∉ as) :
    ∀ {ds : List D} {ps : List PyData} {vs : List V} {us : List Value}, Paired (fun x p => g x = some p) ds ps → RepL G A H ds vs → Vals vs us → ∃ as, ReadsAll s.heap us ps as ∧ sysModules ∉ as
  | _, _, _, _, .nil, .nil, .nil => ⟨[], .nil, by simp⟩
  | _, _, _, _, .cons e t, .cons r rt, .cons v vt => by
    obtain ⟨as, h1, h2⟩ := hg _ _ _ _ e r v
    obtain ⟨bs, h3, h4⟩ := readsAll_of hg t rt vt
    exact ⟨as ++ bs, .cons h1 h3, by simp [h2, h4]⟩
theorem paired_map {α β γ δ : Type} {P : α → β → Prop} {Q : γ → δ → Prop} (f : α → γ) (g : β → δ) (h : ∀ a b, P a b → Q (f a) (g b)) : ∀ {xs : List α} {ys : List β}, Paired P xs ys → Paired Q (xs.map f) (ys.map g)
  | _, _, .nil => .nil
  | _, _, .cons r t => .cons (h _ _ r) (paired_map f g h t)
theorem keys_read {knd : List (Key × Value)} : ∀ {es : List DictEntry} {kvs : List (Key × Value)}, Pairs (mixKind X.prog X.w) es kvs → ReadsAll s.heap (es.map (·.key)) (kvs.map fun kv => kP kv.1) []
  | _, _, .nil => .nil
  | _, _, .cons (kv := kv) h1 h2 t => by
    have ih := keys_read (knd := knd) t
    have z : keyIs kv.1 _ = true := h1
    rcases keyIs_shape z with ⟨i, t', e1, e2⟩ | ⟨x, t', e1, e2⟩
    · rw [List.map_cons, List.map_cons, e1, e2]
      exact ReadsAll.cons (as := []) (.int i t') ih
    · rw [List.map_cons, List.map_cons, e1, e2]
      exact ReadsAll.cons (as := []) (.str x t') ih
theorem vals_pairs : ∀ {es : List DictEntry} {kvs : List (Key × Value)}, Pairs (mixKind X.prog X.w) es kvs → es.map (·.val) = kvs.map (·.2)
  | _, _, .nil => rfl
  | _, _, .cons h1 h2 t => by rw [List.map_cons, List.map_cons, h2, vals_pairs t]
theorem kv_keys : ∀ {vs : List (Key × V)} {ws : List (Key × Value)}, KV vs ws → vs.map (·.1) = ws.map (·.1) ∧ Vals (vs.map (·.2)) (ws.map (·.2))
  | _, _, .nil => ⟨rfl, .nil⟩
  | _, _, .cons r t => by
    obtain ⟨h1, h2⟩ := kv_keys t
    exact ⟨by rw [List.map_cons, List.map_cons, h1, r.1], .cons r.2 h2⟩

theorem toPy_reads (sm : SmOk X.base) (hK : X.K = G.K) (I : Inv X pins σ H s) (R : SRel G A H S) : ∀ (f : Nat) (d : D) (p : PyData) (v : V) (u : Value), toPy S f d = some p → Rep G A H d v → RelV v u → ∃ as, Reads s.heap u p as ∧ sysModules ∉ as := by
  have flat : ∀ (d : D) (p : PyData) (v : V) (u : Value), isFlat d = true → (∀ f, toPy S f d = some p) → Rep G A H d v → RelV v u → ∃ as, Reads s.heap u p as ∧ sysModules ∉ as := by
    intro d p v u hf e r rv
    have e := e 0
    cases r with
    | non => cases e; cases rv; exact ⟨[], .none, by simp⟩
    | bl b => cases e; cases rv; exact ⟨[], .bool b, by simp⟩
    | int i => cases e; obtain ⟨t, rfl⟩ := rv; exact ⟨[], .int i t, by simp⟩
    | str x => cases e; obtain ⟨t, rfl⟩ := rv; exact ⟨[], .str x t, by simp⟩
    | _ => cases hf
  intro f
  induction f with
  | zero =>
    intro d p v u e r rv
    cases d <;> first | exact flat _ _ _ _ rfl (fun f => by cases f <;> exact e) r rv | cases e
  | succ f ih =>
    intro d p v u e r rv
    have seq : ∀ {xs : List D} {ps : List PyData} {a : Addr} {vs : List V}, xs.mapM (toPy S f) = some ps → SqL G.K H a vs → (H a ≠ none ∨ ∃ o, G.K.lookup a = some o ∧ o.cls = .type "list") → RepL G A H xs vs → ∃ as, Reads s.heap (.ref a) (.list ps) as ∧ sysModules ∉ as := by
      intro xs ps a vs e1 hq hn hr
      obtain ⟨its, rvs, ⟨o, n, h1, h2, _, h3⟩, _⟩ := I.list (by rw [hK]; exact hq)
      obtain ⟨as, q1, q2⟩ := readsAll_of ih (mapM_some e1) hr rvs
      refine ⟨a :: as, .list h1 h2 h3 (by simpa using q1), ?_⟩
      simp only [List.mem_cons, not_or]
      refine ⟨?_, q2⟩
      rcases hn with hn | ⟨o', hk, hc⟩
      · cases q : H a with
        | none => exact absurd q hn
        | some w => exact not_sm sm I q
      · obtain ⟨ob, es, m, b1, b2⟩ := sm
        intro z
        have z1 := I.mod.kin a o' (by rw [hK]; exact hk)
        rw [← z, b1] at z1
        cases z1
        have y1 := I.bk _ _ b1
        rw [z, h1] at y1
        cases y1
        rw [h3] at b2
        cases b2
    cases d with
    | non => exact flat _ _ _ _ rfl (fun f => by cases f <;> exact e) r rv
    | bl b => exact flat _ _ _ _ rfl (fun f => by cases f <;> exact e) r rv
    | int i => exact flat _ _ _ _ rfl (fun f => by cases f <;> exact e) r rv
    | str x => exact flat _ _ _ _ rfl (fun f => by cases f <;> exact e) r rv
    | ty n => cases e
    | own x => cases e
    | tup xs =>
      simp only [toPy, Option.map_eq_some_iff] at e
      obtain ⟨ps, e1, rfl⟩ := e
      obtain ⟨a, vs, rfl, h1, h2⟩ := rep_tup r
      cases rv
      obtain ⟨its, rvs, ⟨o, q1, q2, n, q3⟩, _⟩ := I.tuple (.of h1)
      obtain ⟨as, z1, z2⟩ := readsAll_of ih (mapM_some e1) h2 rvs
      exact ⟨as, .tuple q1 q2 q3 (by simpa using z1), z2⟩
    | con xs =>
      simp only [toPy, Option.map_eq_some_iff] at e
      obtain ⟨ps, e1, rfl⟩ := e
      cases r with
      | con h t =>
        cases rv
        refine seq e1 h.sq ?_ t
        rcases h with ⟨ob, h⟩ | ⟨o, _, _, h, h', _⟩
        · exact .inl (by rw [h]; simp)
        · exact .inr ⟨o, h, h'⟩
    | ref n =>
      simp only [toPy] at e
      split at e
      · rename_i xs q
        simp only [Option.map_eq_some_iff] at e
        obtain ⟨ps, e1, rfl⟩ := e
        obtain ⟨a, vs, rfl, _, h2, h3⟩ := rep_lst R r q
        cases rv
        exact seq e1 (.of h2) (.inl (by rw [h2]; simp)) h3
      · rename_i kvs q
        simp only [Option.map_eq_some_iff] at e
        obtain ⟨ps, e1, rfl⟩ := e
        obtain ⟨a, vs, rfl, _, h2, h3, h4⟩ := rep_dic R r q
        cases rv
        obtain ⟨_, hs, ws, kv, o, es, ep, b1, ⟨b2, _⟩, b3, _, b5, _⟩ := (show ObjOk X.prog X.w H s.heap a (.dK vs) from I.hok a _ h2)
        obtain ⟨k1, k2⟩ := kv_keys kv
        have pm := mapM_some e1
        have p1 : ps.map (·.1) = kvs.map fun kv => kP kv.1 := by
          clear e1 q h3 h4
          induction pm with
          | nil => rfl
          | cons hh t iht =>
            simp only [Option.map_eq_some_iff] at hh
            obtain ⟨w, _, rfl⟩ := hh
            rw [List.map_cons, List.map_cons, iht]
        have p2 : Paired (fun x p => toPy S f x = some p) (kvs.map (·.2)) (ps.map (·.2)) := by
          refine paired_map _ _ (fun kv p hh => ?_) pm
          simp only [Option.map_eq_some_iff] at hh
          obtain ⟨w, e3, rfl⟩ := hh
          exact e3
        obtain ⟨bs, z1, z2⟩ := readsAll_of ih p2 h4 k2
        refine ⟨a :: [] ++ bs, .dict (kvs := ps) b1 b2 b3 (as := []) (bs := bs) ?_ ?_, ?_⟩
        · rw [p1]
          have : (kvs.map fun kv => kP kv.1) = ws.map fun kv => kP kv.1 := by
            have : kvs.map (·.1) = ws.map (·.1) := h3.trans k1
            have := congrArg (List.map kP) this
            rw [List.map_map, List.map_map] at this
            exact this
          rw [this]
          exact keys_read (knd := ws) b5
        · rw [vals_pairs b5]; exact z1
        · simp only [List.cons_append, List.nil_append, List.mem_cons, not_or]
          exact ⟨not_sm sm I h2, z2⟩
      · cases e
theorem depth_mapM {f : Nat} {g : D → Option PyData} (hg : ∀ d p, g d = some p → p.depth ≤ f) : ∀ {ds : List D} {ps : List PyData}, Paired (fun x p => g x = some p) ds ps → PyData.depthAll ps ≤ f
  | _, _, .nil => by simp [PyData.depthAll]
  | _, _, .cons e t => by
    simp only [PyData.depthAll]
    exact Nat.max_le.mpr ⟨hg _ _ e, depth_mapM hg t⟩
theorem kP_depth (k : Key) : (kP k).depth = 0 := by cases k <;> simp [kP, PyData.depth]
theorem toPy_depth : ∀ (f : Nat) (d : D) (p : PyData), toPy S f d = some p → p.depth ≤ f := by
  intro f
  induction f with
  | zero => intro d p e; cases d <;> first | (cases e; simp [PyData.depth]) | cases e
  | succ f ih =>
    intro d p e
    cases d with
    | non => cases e; simp [PyData.depth]
    | bl b => cases e; simp [PyData.depth]
    | int i => cases e; simp [PyData.depth]
    | str x => cases e; simp [PyData.depth]
    | ty n => cases e
    | own x => cases e
    | tup xs =>
      simp only [toPy, Option.map_eq_some_iff] at e
      obtain ⟨ps, e1, rfl⟩ := e
      simp only [PyData.depth]
      have := depth_mapM ih (mapM_some e1)
      omega
    | con xs =>
      simp only [toPy, Option.map_eq_some_iff] at e
      obtain ⟨ps, e1, rfl⟩ := e
      simp only [PyData.depth]
      have := depth_mapM ih (mapM_some e1)
      omega
    | ref n =>
      simp only [toPy] at e
      split at e
      · simp only [Option.map_eq_some_iff] at e
        obtain ⟨ps, e1, rfl⟩ := e
        simp only [PyData.depth]
        have := depth_mapM ih (mapM_some e1)
        omega
      · rename_i kvs q
        simp only [Option.map_eq_some_iff] at e
        obtain ⟨ps, e1, rfl⟩ := e
        simp only [PyData.depth]
        have : PyData.depthKv ps ≤ f := by
          have pm := mapM_some e1
          clear e1 q
          induction pm with
          | nil => simp [PyData.depthKv]
          | cons hh t iht =>
            simp only [Option.map_eq_some_iff] at hh
            obtain ⟨w, e3, rfl⟩ := hh
            simp only [PyData.depthKv, kP_depth]
            exact Nat.max_le.mpr ⟨Nat.max_le.mpr ⟨Nat.zero_le _, ih _ _ e3⟩, iht⟩
        omega
      · cases e

/-! ### == and != -/
/-- == by the state -/
def rRc (X : Cx) : R2 := fun x y H Q => ∃ b, (∀ pins s σ v u, Inv X pins σ H s → RelV x v → RelV y u → SeqAt.RcAt X.A s v u b) ∧ Q (.bl b) H
def rRn (X : Cx) : R2 := fun x y H Q => ∃ b, (∀ pins s σ v u, Inv X pins σ H s → RelV x v → RelV y u → SeqAt.RcNeAt X.A s v u b) ∧ Q (.bl b) H
theorem op_rc : OpR X (compareOp .Eq) (rRc X) := by
  intro pins s σ H x y v u Q I rx ry h
  obtain ⟨b, h1, q⟩ := h
  exact h1 pins s σ v u I rx ry _ _ _ _ ⟨.bl b, H, I, rfl, q⟩
theorem op_rn : OpR X (compareOp .NotEq) (rRn X) := by
  intro pins s σ H x y v u Q I rx ry h
  obtain ⟨b, h1, q⟩ := h
  exact h1 pins s σ v u I rx ry _ _ _ _ ⟨.bl b, H, I, rfl, q⟩
/-- two flat values -/
theorem flat_rc {A0 : Around} {s : Shared} {x y : D} {v u : V} {v' u' : Value} (fx : isFlat x = true) (fy : isFlat y = true) (rx : Rep G A H x v) (ry : Rep G A H y u) (r1 : RelV v v') (r2 : RelV u u') :
    SeqAt.RcAt A0 s v' u' (eqF x y) ∧ SeqAt.RcNeAt A0 s v' u' (!eqF x y) := by
  cases rx <;> first | (cases fx; done) | skip
  all_goals (cases ry <;> first | (cases fy; done) | skip)
  all_goals (first | (obtain ⟨t, rfl⟩ := r1) | cases r1)
  all_goals (first | (obtain ⟨t', rfl⟩ := r2) | cases r2)
  · exact ⟨.none_none, .none_none⟩
  · exact ⟨.none_bool _, .none_bool _⟩
  · exact ⟨.none_int _ _, .none_int _ _⟩
  · exact ⟨.none_str _ _, .none_str _ _⟩
  · exact ⟨.bool_none _, .bool_none _⟩
  · exact ⟨.bool_bool _ _, .bool_bool _ _⟩
  · exact ⟨.bool_int _ _ _, .bool_int _ _ _⟩
  · exact ⟨.bool_str _ _ _, .bool_str _ _ _⟩
  · exact ⟨.int_none _ _, .int_none _ _⟩
  · exact ⟨.int_bool _ _ _, .int_bool _ _ _⟩
  · exact ⟨.int_int _ _ _ _, .int_int _ _ _ _⟩
  · exact ⟨.int_str _ _ _ _, .int_str _ _ _ _⟩
  · exact ⟨.str_none _ _, .str_none _ _⟩
  · exact ⟨.str_bool _ _ _, .str_bool _ _ _⟩
  · exact ⟨.str_int _ _ _ _, .str_int _ _ _ _⟩
  · exact ⟨.str_str _ _ _ _, .str_str _ _ _ _⟩
theorem tup_rc {a b : Addr} {vs ws : List V} (hu : X.A.units < cLine) (I : Inv X pins σ H s) (ha : H a = some (.tup vs)) (hb : H b = some (.tup ws)) (he : vs = [] ∨ ws = []) :
    SeqAt.RcAt X.A s (.ref a) (.ref b) (vs.isEmpty && ws.isEmpty) ∧ SeqAt.RcNeAt X.A s (.ref a) (.ref b) (!(vs.isEmpty && ws.isEmpty)) := by
  obtain ⟨its, r1, p1, _⟩ := I.tuple (X := X) (.of ha)
  obtain ⟨its2, r2, p2, _⟩ := I.tuple (X := X) (.of hb)
  have l1 := r1.length
  have l2 := r2.length
  have no : ∀ j (h1 : j < its.toArray.size) (h2 : j < its2.toArray.size), SeqAt.EqAt X.A.in1 s its.toArray[j] its2.toArray[j] false := fun j h1 h2 => by
    simp at h1 h2
    rcases he with rfl | rfl
    · simp at l1; omega
    · simp at l2; omega
  have e : ((List.range (min its.toArray.size its2.toArray.size)).all (fun _ => false) && its.toArray.size == its2.toArray.size) = (vs.isEmpty && ws.isEmpty) := by
    simp only [List.size_toArray]
    rw [← l1, ← l2]
    rcases he with rfl | rfl
    · cases ws <;> simp
    · cases vs <;> simp
  rw [← e]
  exact ⟨SeqAt.RcAt.tuples (e := fun _ => false) (show s.heap.IsTuple a its.toArray from p1) (show s.heap.IsTuple b its2.toArray from p2) hu no, SeqAt.RcNeAt.tuples (e := fun _ => false) (show s.heap.IsTuple a its.toArray from p1) (show s.heap.IsTuple b its2.toArray from p2) hu no⟩
theorem lst_rc {a b : Addr} {vs ws : List V} (hu : X.A.units < cLine) (I : Inv X pins σ H s) (ha : SqL X.K H a vs) (hb : SqL X.K H b ws) (he : vs = [] ∨ ws = []) :
    SeqAt.RcAt X.A s (.ref a) (.ref b) (vs.isEmpty && ws.isEmpty) ∧ SeqAt.RcNeAt X.A s (.ref a) (.ref b) (!(vs.isEmpty && ws.isEmpty)) := by
  obtain ⟨its, r1, p1, _⟩ := I.list ha
  obtain ⟨its2, r2, p2, _⟩ := I.list hb
  have l1 := r1.length
  have l2 := r2.length
  have z1 : its.toArray.size = vs.length := by simp [l1]
  have z2 : its2.toArray.size = ws.length := by simp [l2]
  by_cases hz : vs.length = ws.length
  · have e0 : vs = [] ∧ ws = [] := by
      rcases he with rfl | rfl
      · exact ⟨rfl, List.length_eq_zero_iff.mp hz.symm⟩
      · exact ⟨List.length_eq_zero_iff.mp hz, rfl⟩
    obtain ⟨rfl, rfl⟩ := e0
    have no : ∀ j (h1 : j < its.toArray.size) (h2 : j < its2.toArray.size), SeqAt.EqAt X.A.in1 s its.toArray[j] its2.toArray[j] false := fun j h1 h2 => by rw [z1] at h1; exact absurd h1 (by simp)
    have e : (List.range its.toArray.size).all (fun _ => false) = true := by rw [z1]; rfl
    have q1 := SeqAt.RcAt.lists (e := fun _ => false) p1.isList p2.isList (by rw [z1, z2]) hu no
    have q2 := SeqAt.RcNeAt.lists (e := fun _ => false) p1.isList p2.isList (by rw [z1, z2]) hu no
    rw [e] at q1 q2
    exact ⟨q1, q2⟩
  · have e : (vs.isEmpty && ws.isEmpty) = false := by
      rcases he with rfl | rfl
      · cases ws with
        | nil => exact absurd rfl hz
        | cons => rfl
      · cases vs with
        | nil => exact absurd rfl hz
        | cons => rfl
    rw [e]
    have hb' : (its.toArray.size != its2.toArray.size) = true := by rw [z1, z2]; simpa using hz
    exact ⟨SeqAt.RcAt.lists_lengths p1.isList p2.isList hb' hu, SeqAt.RcNeAt.lists_lengths p1.isList p2.isList hb' hu⟩
theorem isEmpty_rep {ds : List D} {vs : List V} (h : RepL G A H ds vs) : vs.isEmpty = ds.isEmpty := by cases h <;> rfl
theorem eqD_rc {n : Nat} {x y : D} {v u : V} {b : Bool} (xo : Xok G X n) (sm : SmOk X.base) (R : SRel G A H S) (rx : Rep G A H x v) (ry : Rep G A H y u) (e : eqD S x y = some b) :
    ∀ pins s σ v' u', Inv X pins σ H s → RelV v v' → RelV u u' → SeqAt.RcAt X.A s v' u' b ∧ SeqAt.RcNeAt X.A s v' u' (!b) := by
  intro pins s σ v' u' I r1 r2
  unfold eqD at e
  split at e
  · rename_i hf
    rw [Bool.and_eq_true] at hf
    cases e
    exact flat_rc hf.1 hf.2 rx ry r1 r2
  · have tu : ∀ {xs ys : List D}, x = .tup xs → y = .tup ys → (xs = [] ∨ ys = []) → b = (xs.isEmpty && ys.isEmpty) → SeqAt.RcAt X.A s v' u' b ∧ SeqAt.RcNeAt X.A s v' u' (!b) := by
      rintro xs ys rfl rfl hz rfl
      obtain ⟨a, vs, rfl, h1, h2⟩ := rep_tup rx
      obtain ⟨c, ws, rfl, h3, h4⟩ := rep_tup ry
      cases r1
      cases r2
      rw [← isEmpty_rep h2, ← isEmpty_rep h4]
      refine tup_rc xo.u0 I h1 h3 ?_
      rcases hz with rfl | rfl
      · cases h2; exact .inl rfl
      · cases h4; exact .inr rfl
    split at e
    · rename_i xs
      cases e
      exact tu rfl rfl (.inr rfl) (by simp)
    · rename_i ys _
      cases e
      exact tu rfl rfl (.inl rfl) (by simp)
    · have ls : ∀ {xs ys : List D}, lstOf S x = some xs → lstOf S y = some ys → (xs = [] ∨ ys = []) → b = (xs.isEmpty && ys.isEmpty) → SeqAt.RcAt X.A s v' u' b ∧ SeqAt.RcNeAt X.A s v' u' (!b) := by
        intro xs ys e1 e2 hz hb
        subst hb
        obtain ⟨a, vs, rfl, h1, h2⟩ := lstOf_rep R rx e1
        obtain ⟨c, ws, rfl, h3, h4⟩ := lstOf_rep R ry e2
        cases r1
        cases r2
        rw [← isEmpty_rep h2, ← isEmpty_rep h4]
        refine lst_rc xo.u0 I (by rw [xo.K]; exact h1) (by rw [xo.K]; exact h3) ?_
        rcases hz with rfl | rfl
        · cases h2; exact .inl rfl
        · cases h4; exact .inr rfl
      split at e
      · rename_i xs e1 e2
        cases e
        exact ls e1 e2 (.inr rfl) (by simp)
      · rename_i ys _ e1 e2
        cases e
        exact ls e1 e2 (.inl rfl) (by simp)
      · split at e
        · rename_i p q e1 e2
          split at e
          · rename_i hc
            cases e
            rw [Bool.and_eq_true] at hc
            obtain ⟨as, q1, _⟩ := toPy_reads sm xo.K I R _ _ _ _ _ e1 rx r1
            obtain ⟨bs, q2, _⟩ := toPy_reads sm xo.K I R _ _ _ _ _ e2 ry r2
            have d1 : SeqAt.shaped p = true := by
              unfold SeqAt.shaped
              rw [hc.1, Bool.true_and, decide_eq_true_eq]
              exact Nat.le_trans (toPy_depth _ _ _ e1) (by decide)
            have d2 : SeqAt.shaped q = true := by
              unfold SeqAt.shaped
              rw [hc.2, Bool.true_and, decide_eq_true_eq]
              exact Nat.le_trans (toPy_depth _ _ _ e2) (by decide)
            exact ⟨fun prog w E Q h => SeqAt.compareEq_shaped q1 q2 d1 d2 xo.u64 h, fun prog w E Q h => SeqAt.compareNe_shaped q1 q2 d1 d2 xo.u64 h⟩
          · cases e
        · cases e
theorem cmp_eq {n : Nat} (xo : Xok G X n) (sm : SmOk X.base) : ∃ r, OpR X (compareOp .Eq) r ∧ OpOk G r (cmpD .Eq) := by
  refine ⟨_, op_rc, fun A H S x y v u Q E R hx hy h => ?_⟩
  simp only [cmpD, ofO] at h
  split at h
  · rename_i b e
    exact ⟨b, fun pins s σ v' u' I r1 r2 => (eqD_rc xo sm R hx hy e pins s σ v' u' I r1 r2).1, h.here R (.bl b)⟩
  · exact h.elim
theorem cmp_ne {n : Nat} (xo : Xok G X n) (sm : SmOk X.base) : ∃ r, OpR X (compareOp .NotEq) r ∧ OpOk G r (cmpD .NotEq) := by
  refine ⟨_, op_rn, fun A H S x y v u Q E R hx hy h => ?_⟩
  simp only [cmpD, ofO] at h
  split at h
  · rename_i b e
    exact ⟨!b, fun pins s σ v' u' I r1 r2 => (eqD_rc xo sm R hx hy e pins s σ v' u' I r1 r2).2, h.here R (.bl _)⟩
  · exact h.elim
end
end MP

namespace MP
open PySem L2
section
variable {G : Gx} {X : Cx} {n : Nat}

theorem lexAt_shift (e r : Nat → Bool) (z : Bool) : ∀ (k i : Nat), Ob.lexAt e r z (i + 1) k = Ob.lexAt (fun j => e (j + 1)) (fun j => r (j + 1)) z i k
  | 0, _ => rfl
  | k + 1, i => by rw [Ob.lexAt_succ, Ob.lexAt_succ, lexAt_shift e r z k (i + 1)]
theorem lexLe_eq : ∀ (ns ms : List Int), Ob.lexAt (fun j => decide (ns.getD j 0 = ms.getD j 0)) (fun j => decide (ns.getD j 0 ≤ ms.getD j 0)) (decide (ns.length ≤ ms.length)) 0 (min ns.length ms.length) = !HT.lexLt ms ns
  | [], [] => rfl
  | [], m :: ms => by simp [Ob.lexAt_zero, HT.lexLt]
  | a :: ns, [] => by simp [Ob.lexAt_zero, HT.lexLt]
  | a :: ns, m :: ms => by
    have ih := lexLe_eq ns ms
    rw [show min (a :: ns).length (m :: ms).length = min ns.length ms.length + 1 by simp, Ob.lexAt_succ, HT.lexLt_cons]
    simp only [List.getD_cons_zero, List.length_cons, Nat.add_le_add_iff_right, decide_eq_true_eq]
    by_cases h : a = m
    · rw [if_pos h, if_pos h.symm, lexAt_shift]
      simp only [List.getD_cons_succ]
      exact ih
    · rw [if_neg h, if_neg (Ne.symm h)]
      by_cases h2 : a ≤ m
      · rw [decide_eq_true h2, decide_eq_false (by omega)]; rfl
      · rw [decide_eq_false h2, decide_eq_true (by omega)]; rfl

theorem cmp_lt (xo : Xok G X n) : ∃ r, OpR X (compareOp .Lt) r ∧ OpOk G r (cmpD .Lt) := by
  refine ⟨_, op_lt.or (op_ltT xo.u0), fun A H S x y v u Q E R hx hy h => ?_⟩
  simp only [cmpD, ofO] at h
  split at h
  · rename_i b e
    unfold ltD at e
    split at e
    · cases e
      rw [rep_int hx, rep_int hy]
      exact .inl ⟨_, _, rfl, rfl, h.here R (.bl _)⟩
    · rename_i xs ys
      split at e
      · rename_i ns ms e1 e2
        cases e
        obtain ⟨a, vs, rfl, h1, h2⟩ := rep_tup hx
        obtain ⟨c, ws, rfl, h3, h4⟩ := rep_tup hy
        rw [intsOf_rep h2 e1] at h1
        rw [intsOf_rep h4 e2] at h3
        exact .inr ⟨a, c, ns, ms, rfl, rfl, .of h1, .of h3, h.here R (.bl _)⟩
      · cases e
    · cases e
  · exact h.elim
theorem cmp_le (xo : Xok G X n) : ∃ r, OpR X (compareOp .LtE) r ∧ OpOk G r (cmpD .LtE) := by
  refine ⟨_, op_le.or (op_leT xo.u0), fun A H S x y v u Q E R hx hy h => ?_⟩
  simp only [cmpD, ofO] at h
  split at h
  · rename_i b e
    unfold leD at e
    split at e
    · cases e
      rw [rep_int hx, rep_int hy]
      exact .inl ⟨_, _, rfl, rfl, h.here R (.bl _)⟩
    · rename_i xs ys
      split at e
      · rename_i ns ms e1 e2
        cases e
        obtain ⟨a, vs, rfl, h1, h2⟩ := rep_tup hx
        obtain ⟨c, ws, rfl, h3, h4⟩ := rep_tup hy
        rw [intsOf_rep h2 e1] at h1
        rw [intsOf_rep h4 e2] at h3
        refine .inr ⟨a, c, ns, ms, rfl, rfl, .of h1, .of h3, ?_⟩
        rw [lexLe_eq]
        exact h.here R (.bl _)
      · cases e
    · cases e
  · exact h.elim
theorem cmp_gt (xo : Xok G X n) : ∃ r, OpR X (compareOp .Gt) r ∧ OpOk G r (cmpD .Gt) := by
  refine ⟨_, op_gt, fun A H S x y v u Q E R hx hy h => ?_⟩
  simp only [cmpD] at h
  split at h
  · rw [rep_int hx, rep_int hy]
    exact ⟨_, _, rfl, rfl, h.here R (.bl _)⟩
  · exact h.elim
theorem cmp_ge (xo : Xok G X n) : ∃ r, OpR X (compareOp .GtE) r ∧ OpOk G r (cmpD .GtE) := by
  refine ⟨_, op_ge, fun A H S x y v u Q E R hx hy h => ?_⟩
  simp only [cmpD] at h
  split at h
  · rw [rep_int hx, rep_int hy]
    exact ⟨_, _, rfl, rfl, h.here R (.bl _)⟩
  · exact h.elim
theorem isD_cases {A : List Addr} {H : Hp} {x y : D} {v u : V} {b : Bool} (e : isD x y = some b) (hx : Rep G A H x v) (hy : Rep G A H y u) :
    (∃ p q : Bool, v = .bl p ∧ u = .bl q ∧ b = decide (p = q)) ∨ (u = .non ∧ b = decide (v = .non)) := by
  unfold isD at e
  split at e
  · cases e
    exact .inl ⟨_, _, rep_bl hx, rep_bl hy, rfl⟩
  · cases e
    cases hx
    cases hy
    exact .inr ⟨rfl, rfl⟩
  · rename_i hn
    cases hy
    split at e
    · cases e
    · cases e
    · cases e
      refine .inr ⟨rfl, ?_⟩
      cases hx <;> first | rfl | (exact absurd rfl hn)
  · cases e
theorem cmp_is (xo : Xok G X n) : ∃ r, OpR X (compareOp .Is) r ∧ OpOk G r (cmpD .Is) := by
  refine ⟨_, op_isBl.or op_isN, fun A H S x y v u Q E R hx hy h => ?_⟩
  simp only [cmpD, ofO] at h
  split at h
  · rename_i b e
    rcases isD_cases e hx hy with ⟨p, q, rfl, rfl, rfl⟩ | ⟨rfl, rfl⟩
    · exact .inl ⟨p, q, rfl, rfl, h.here R (.bl _)⟩
    · exact .inr ⟨rfl, h.here R (.bl _)⟩
  · exact h.elim
theorem cmp_isnot (xo : Xok G X n) : ∃ r, OpR X (compareOp .IsNot) r ∧ OpOk G r (cmpD .IsNot) := by
  refine ⟨_, op_notBl.or op_notN, fun A H S x y v u Q E R hx hy h => ?_⟩
  simp only [cmpD, ofO] at h
  split at h
  · rename_i b e
    rcases isD_cases e hx hy with ⟨p, q, rfl, rfl, rfl⟩ | ⟨rfl, rfl⟩
    · exact .inl ⟨p, q, rfl, rfl, h.here R (.bl _)⟩
    · exact .inr ⟨rfl, h.here R (.bl _)⟩
  · exact h.elim

/-! ### in -/
theorem op_din (hu : X.A.units + 1 < cLine) : OpR X (compareOp .In) (fun x y H Q => ∃ a ov, y = .ref a ∧ DGet H a x ov ∧ Q (.bl ov.isSome) H) := by
  intro pins s σ H x y v u Q I rx ry h
  obtain ⟨a, ov, rfl, g, q⟩ := h
  cases ry
  exact d_in hu I g rx fun s3 I3 => ⟨.bl _, H, I3, rfl, q⟩
theorem op_dnotin (hu : X.A.units + 1 < cLine) : OpR X (compareOp .NotIn) (fun x y H Q => ∃ a ov, y = .ref a ∧ DGet H a x ov ∧ Q (.bl (!ov.isSome)) H) := by
  intro pins s σ H x y v u Q I rx ry h
  obtain ⟨a, ov, rfl, g, q⟩ := h
  cases ry
  exact d_notIn hu I g rx fun s3 I3 => ⟨.bl _, H, I3, rfl, q⟩
section
variable {A : List Addr} {H : Hp} {S : Store}
theorem flatV_rep {d : D} {v : V} (r : Rep G A H d v) (h : isFlat d = true) : flatV v = true := by cases r <;> first | rfl | cases h
theorem flatV_all : ∀ {ds : List D} {vs : List V}, RepL G A H ds vs → ds.all isFlat = true → vs.all flatV = true
  | _, _, .nil, _ => rfl
  | _, _, .cons r t, h => by
    rw [List.all_cons, Bool.and_eq_true] at h ⊢
    exact ⟨flatV_rep r h.1, flatV_all t h.2⟩
theorem eqV_rep {x y : D} {v u : V} (rx : Rep G A H x v) (ry : Rep G A H y u) (hx : isFlat x = true) (hy : isFlat y = true) : eqV v u = eqF x y := by
  cases rx <;> first | (cases hx; done) | skip
  all_goals (cases ry <;> first | (cases hy; done) | skip)
  all_goals rfl
theorem inV_rep {x : D} {v : V} (rx : Rep G A H x v) (hx : isFlat x = true) : ∀ {ds : List D} {vs : List V}, RepL G A H ds vs → ds.all isFlat = true → inV v vs = ds.any fun y => eqF y x
  | _, _, .nil, _ => rfl
  | _, _, .cons r t, h => by
    rw [List.all_cons, Bool.and_eq_true] at h
    have ih := inV_rep rx hx t h.2
    unfold inV at ih ⊢
    rw [List.any_cons, List.any_cons, ih, eqV_rep r rx h.1 hx]
theorem kV_rep {d : D} {k : Key} {v : V} (r : Rep G A H d v) (h : keyOf d = some k) : v = kV k := by
  cases r <;> first | (cases h; rfl) | cases h
theorem valV_rep : ∀ {kvs : List (Key × D)} {vs : List (Key × V)} (k : Key), kvs.map (·.1) = vs.map (·.1) → RepL G A H (kvs.map (·.2)) (vs.map (·.2)) → (valV vs k).isSome = (valD kvs k).isSome ∧ ∀ d, valD kvs k = some d → ∃ v, valV vs k = some v ∧ Rep G A H d v
  | [], [], k, _, _ => ⟨rfl, fun d h => by cases h⟩
  | [], _ :: _, _, h, _ => by simp at h
  | _ :: _, [], _, h, _ => by simp at h
  | (k', d') :: kvs, (k'', v') :: vs, k, h, r => by
    simp only [List.map_cons, List.cons.injEq] at h
    obtain ⟨h1, h2⟩ := h
    subst h1
    simp only [List.map_cons] at r
    cases r with
    | cons r t =>
      have ih := valV_rep k h2 t
      unfold valV valD at ih ⊢
      simp only [List.find?_cons]
      by_cases hk : k' = k
      · rw [decide_eq_true hk]
        exact ⟨rfl, fun d e => by cases e; exact ⟨v', rfl, r⟩⟩
      · rw [decide_eq_false hk]
        exact ih
mutual
/-- as HandS reads data -/
theorem toPy_dp (R : SRel G A H S) : ∀ (f : Nat) (d : D) (p : PyData) (v : V), toPy S f d = some p → p.canLay0 = true → Rep G A H d v → Dp G.K H v p
  | 0, d, p, v, e, hc, r => by
    cases r <;> first | (cases e; constructor) | (cases e)
  | f + 1, d, p, v, e, hc, r => by
    cases d with
    | non => cases e; cases r; constructor
    | bl b => cases e; cases r; constructor
    | int i => cases e; cases r; constructor
    | str x => cases e; cases r; constructor
    | ty n => cases e
    | own x => cases e
    | tup xs =>
      simp only [toPy, Option.map_eq_some_iff] at e
      obtain ⟨ps, e1, rfl⟩ := e
      obtain ⟨a, vs, rfl, h1, h2⟩ := rep_tup r
      exact .tup (.of h1) (toPy_dpL R f xs ps vs (mapM_some e1) (by simpa [PyData.canLay0] using hc) h2)
    | con xs =>
      simp only [toPy, Option.map_eq_some_iff] at e
      obtain ⟨ps, e1, rfl⟩ := e
      cases r with
      | con h t => exact .lst h.sq (toPy_dpL R f xs ps _ (mapM_some e1) (by simpa [PyData.canLay0] using hc) t)
    | ref n =>
      simp only [toPy] at e
      split at e
      · rename_i xs q
        simp only [Option.map_eq_some_iff] at e
        obtain ⟨ps, e1, rfl⟩ := e
        obtain ⟨a, vs, rfl, _, h2, h3⟩ := rep_lst R r q
        exact .lst (.of h2) (toPy_dpL R f xs ps vs (mapM_some e1) (by simpa [PyData.canLay0] using hc) h3)
      · simp only [Option.map_eq_some_iff] at e
        obtain ⟨ps, e1, rfl⟩ := e
        simp [PyData.canLay0] at hc
      · cases e
theorem toPy_dpL (R : SRel G A H S) : ∀ (f : Nat) (ds : List D) (ps : List PyData) (vs : List V), Paired (fun x p => toPy S f x = some p) ds ps → PyData.canLayAll0 ps = true → RepL G A H ds vs → DpAll G.K H vs ps
  | _, [], [], _, .nil, _, .nil => .nil
  | f, d :: ds, p :: ps, _, .cons e t, hc, .cons r rt => by
    rw [PyData.canLayAll0, Bool.and_eq_true] at hc
    exact .cons (toPy_dp R f d p _ e hc.1 r) (toPy_dpL R f ds ps _ t hc.2 rt)
end
end
theorem shaped_of {d : PyData} (hc : d.canLay0 = true) (hd : d.depth ≤ 64) : SeqAt.shaped d = true := by
  unfold SeqAt.shaped
  rw [hc, Bool.true_and, decide_eq_true_eq]
  exact hd
theorem inD_cases {A : List Addr} {H : Hp} {S : Store} {x y : D} {v u : V} {b : Bool} (R : SRel G A H S) (e : inD S x y = some b) (hx : Rep G A H x v) (hy : Rep G A H y u) :
    (∃ p xs, u = .ref p ∧ (SqL G.K H p xs ∨ SqT G.K H p xs) ∧ flatV v = true ∧ xs.all flatV = true ∧ b = inV v xs) ∨
    (∃ d ds, Dp G.K H v d ∧ Dp G.K H u (.list ds) ∧ SeqAt.shaped d = true ∧ SeqAt.shaped (.list ds) = true ∧ b = ds.any fun z => PyData.eqv z d) ∨
    (∃ a ov, u = .ref a ∧ DGet H a v ov ∧ b = ov.isSome) := by
  unfold inD at e
  split at e
  · rename_i ys es
    split at e
    · rename_i hf
      rw [Bool.and_eq_true] at hf
      cases e
      obtain ⟨a, vs, rfl, h1, h2⟩ := seqOf_rep R hy es
      exact .inl ⟨a, vs, rfl, h1, flatV_rep hx hf.1, flatV_all h2 hf.2, (inV_rep hx hf.1 h2 hf.2).symm⟩
    · split at e
      · rename_i zs p ps e1 e2 e3
        split at e
        · rename_i hc
          rw [Bool.and_eq_true] at hc
          cases e
          have hys : zs = ys := by
            cases y with
            | con l => simp only [lstOf, seqOf] at e1 es; rw [e1] at es; exact Option.some.inj es
            | ref m => simp only [lstOf, seqOf] at e1 es; rw [e1] at es; exact Option.some.inj es
            | _ => simp [lstOf] at e1
          subst hys
          obtain ⟨a, vs, rfl, h1, h2⟩ := lstOf_rep R hy e1
          have dd := depth_mapM (fun d p q => toPy_depth (S := S) dep d p q) (mapM_some e3)
          refine .inr (.inl ⟨p, ps, toPy_dp R _ _ _ _ e2 hc.1 hx, .lst h1 (toPy_dpL R _ _ _ _ (mapM_some e3) hc.2 h2), shaped_of hc.1 (Nat.le_trans (toPy_depth _ _ _ e2) (by decide)), shaped_of (by simpa [PyData.canLay0] using hc.2) ?_, rfl⟩)
          simp only [PyData.depth]
          unfold dep at dd
          omega
        · cases e
      · cases e
  · split at e
    · rename_i kvs k e1 e2
      cases e
      obtain ⟨a, vs, rfl, h1, h2, h3⟩ := dictOf_rep R hy e1
      have z := valV_rep k h2 h3
      exact .inr (.inr ⟨a, valV vs k, rfl, by rw [kV_rep hx e2]; exact DGet.k h1, z.1.symm⟩)
    · cases e
theorem Xok.u1 (h : Xok G X n) : X.A.units + 1 < cLine := by have := h.room.units; omega
theorem Xok.u65 (h : Xok G X n) : X.A.units + 65 < cLine := by have := h.room.un; omega
theorem cmp_in (xo : Xok G X n) : ∃ r, OpR X (compareOp .In) r ∧ OpOk G r (cmpD .In) := by
  refine ⟨_, op_in_seq.or ((op_inD xo.u65).or (op_din xo.u1)), fun A H S x y v u Q E R hx hy h => ?_⟩
  simp only [cmpD, ofO] at h
  split at h
  · rename_i b e
    rw [xo.K]
    rcases inD_cases R e hx hy with ⟨p, xs, h1, h2, h3, h4, rfl⟩ | ⟨d, ds, h1, h2, h3, h4, rfl⟩ | ⟨a, ov, h1, h2, rfl⟩
    · exact .inl ⟨p, xs, h1, h2, h3, h4, h.here R (.bl _)⟩
    · exact .inr (.inl ⟨d, ds, h1, h2, h3, h4, h.here R (.bl _)⟩)
    · exact .inr (.inr ⟨a, ov, h1, h2, h.here R (.bl _)⟩)
  · exact h.elim
theorem cmp_notin (xo : Xok G X n) : ∃ r, OpR X (compareOp .NotIn) r ∧ OpOk G r (cmpD .NotIn) := by
  refine ⟨_, op_notIn_seq.or ((op_notInD xo.u65).or (op_dnotin xo.u1)), fun A H S x y v u Q E R hx hy h => ?_⟩
  simp only [cmpD, ofO] at h
  split at h
  · rename_i b e
    rw [xo.K]
    rcases inD_cases R e hx hy with ⟨p, xs, h1, h2, h3, h4, rfl⟩ | ⟨d, ds, h1, h2, h3, h4, rfl⟩ | ⟨a, ov, h1, h2, rfl⟩
    · exact .inl ⟨p, xs, h1, h2, h3, h4, h.here R (.bl _)⟩
    · exact .inr (.inl ⟨d, ds, h1, h2, h3, h4, h.here R (.bl _)⟩)
    · exact .inr (.inr ⟨a, ov, h1, h2, h.here R (.bl _)⟩)
  · exact h.elim
theorem cmp_ok (xo : Xok G X n) (sm : SmOk X.base) (op : CmpOp) : ∃ r, OpR X (compareOp op) r ∧ OpOk G r (cmpD op) := by
  cases op with
  | Eq => exact cmp_eq xo sm
  | NotEq => exact cmp_ne xo sm
  | Lt => exact cmp_lt xo
  | LtE => exact cmp_le xo
  | Gt => exact cmp_gt xo
  | GtE => exact cmp_ge xo
  | Is => exact cmp_is xo
  | IsNot => exact cmp_isnot xo
  | In => exact cmp_in xo
  | NotIn => exact cmp_notin xo
end
end MP

namespace MP
open PySem L2
section
variable {G : Gx} {X : Cx} {n : Nat}

/-! ### places and slices -/
theorem ix_dic (hu : X.A.units + 1 < cLine) : IxR X (fun x y H Q => ∃ a v, x = .ref a ∧ DGet H a y (some v) ∧ Q v H) := by
  intro value slice pins s σ H x y v u Q I rx ry h hs
  obtain ⟨a, w, rfl, g, q⟩ := h
  cases rx
  exact PyProof.Rows.tail_any (dict_typeIs I g) PySem.F.slot_dict_getitem.lookup (d_getItem hu I g ry fun w' s3 I3 rw' => ⟨w, H, I3, rw', q⟩) hs
theorem atI_rep {A : List Addr} {H : Hp} {ds : List D} {vs : List V} {i : Int} {d : D} (r : RepL G A H ds vs) (e : atI ds i = some d) : ∃ v, atI vs i = some v ∧ Rep G A H d v := by
  unfold atI at e ⊢
  rw [← r.length]
  cases q : ixN ds.length i with
  | none => rw [q] at e; cases e
  | some j =>
    rw [q] at e
    obtain ⟨v, h1, h2⟩ := r.get (show ds[j]? = some d from e)
    exact ⟨v, h1, h2⟩
theorem idx_ok (xo : Xok G X n) : ∃ r, IxR X r ∧ OpOk G r idxD := by
  refine ⟨_, ix_seq.or (ix_dic xo.u1), fun A H S x y v u Q E R hx hy h => ?_⟩
  have dic : ∀ {k : Key} {kvs : List (Key × D)}, keyOf y = some k → dictOf S x = some kvs → FinE G A H (ofO (valD kvs k) id S) Q E → ∃ a w, v = .ref a ∧ DGet H a u (some w) ∧ Q w H := by
    intro k kvs hk hd h
    obtain ⟨a, vs, rfl, h1, h2, h3⟩ := dictOf_rep R hx hd
    have z := (valV_rep (G := G) (A := A) (H := H) k h2 h3).2
    cases q : valD kvs k with
    | none => rw [q] at h; exact h.elim
    | some d =>
      rw [q] at h
      obtain ⟨w, e1, e2⟩ := z d q
      exact ⟨a, w, rfl, by rw [kV_rep hy hk, ← e1]; exact DGet.k h1, h.here R e2⟩
  unfold idxD at h
  split at h
  · rename_i i
    split at h
    · rename_i xs e
      rw [rep_int hy]
      obtain ⟨a, vs, rfl, h1, h2⟩ := seqOf_rep R hx e
      cases q : atI xs i with
      | none => rw [q] at h; exact h.elim
      | some d =>
        rw [q] at h
        obtain ⟨w, e1, e2⟩ := atI_rep h2 q
        rcases h1 with h1 | h1
        · exact .inl (.inl ⟨a, vs, i, w, rfl, rfl, by rw [xo.K]; exact h1, e1, h.here R e2⟩)
        · exact .inl (.inr (.inl ⟨a, vs, i, w, rfl, rfl, by rw [xo.K]; exact h1, e1, h.here R e2⟩))
    · split at h
      · rename_i z _
        split at h
        · rename_i hz
          cases q : atI z.cps.toList i with
          | none => rw [q] at h; exact h.elim
          | some c =>
            rw [q] at h
            rw [rep_int hy, rep_str hx]
            exact .inl (.inr (.inr ⟨z, i, c, rfl, rfl, by rw [← lim_eq]; exact hz, q, h.here R (.str _)⟩))
        · exact h.elim
      · split at h
        · rename_i kvs e
          exact .inr (dic (k := .inl i) rfl e h)
        · exact h.elim
  · split at h
    · rename_i kvs e
      exact .inr (dic rfl e h)
    · exact h.elim
  · exact h.elim

theorem cut_rep {A : List Addr} {H : Hp} {ds : List D} {vs : List V} (r : RepL G A H ds vs) (lo hi : Option Int) : RepL G A H (cut ds lo hi) (cutV vs lo hi) := by
  unfold cut cutV
  rw [r.length]
  exact (r.drop _).take _
/-- slices by values -/
def SlOk (G : Gx) (r : V → Option Int → Option Int → Hp → VK → Prop) : Prop :=
  ∀ A H S x v lo hi Q E, SRel G A H S → Rep G A H x v → FinE G A H (slcD x lo hi S) Q E → r v lo hi H Q
theorem slc_ok (xo : Xok G X n) : ∃ r, SlR X r ∧ SlOk G r := by
  refine ⟨_, sl_tupA.or sl_list, fun A H S x v lo hi Q E R hx f => ?_⟩
  unfold slcD at f
  rw [xo.K]
  split at f
  · rename_i xs
    obtain ⟨a, vs, rfl, h1, h2⟩ := rep_tup hx
    refine .inl ⟨a, vs, rfl, .of h1, fun e => ?_, fun _ p hp => fin_tup R f (cut_rep h2 lo hi) p hp⟩
    have : cut xs lo hi = xs := by
      unfold cut
      rw [h2.length, e.1, e.2, ← h2.length]
      simp
    rw [this] at f
    exact f.here R hx
  · split at f
    · rename_i xs e
      obtain ⟨a, vs, rfl, h1, h2⟩ := lstOf_rep R hx e
      exact .inr ⟨a, vs, rfl, h1, fun p hp => fin_lst R f (cut_rep h2 lo hi) p hp⟩
    · exact f.elim

/-! ### calls by values -/
def CallOk (G : Gx) (r : List V → Hp → VK → Prop) (g : List D → Store → Res D) : Prop :=
  ∀ A H S ds vs Q E, SRel G A H S → RepL G A H ds vs → FinE G A H (g ds S) Q E → r vs H Q
theorem repL1 {A : List Addr} {H : Hp} {d : D} {vs : List V} (r : RepL G A H [d] vs) : ∃ v, vs = [v] ∧ Rep G A H d v := by
  cases r with
  | cons r t => cases t; exact ⟨_, rfl, r⟩
theorem repL2 {A : List Addr} {H : Hp} {d e : D} {vs : List V} (r : RepL G A H [d, e] vs) : ∃ v w, vs = [v, w] ∧ Rep G A H d v ∧ Rep G A H e w := by
  cases r with
  | cons r t =>
    obtain ⟨w, rfl, h⟩ := repL1 t
    exact ⟨_, w, rfl, r, h⟩
theorem blt_len (xo : Xok G X n) : ∃ r, CallR X (.builtin "len") r ∧ CallOk G r (bltD .len) := by
  refine ⟨_, call_len_seq.or (call_len_str.or call_lenD), fun A H S ds vs Q E R hx h => ?_⟩
  unfold bltD at h
  split at h <;> try exact h.elim
  all_goals (rename_i hf; try cases hf)
  rename_i x
  obtain ⟨v, rfl, hv⟩ := repL1 hx
  unfold lenD at h
  split at h
  · rename_i xs e
    obtain ⟨a, ws, rfl, h1, h2⟩ := seqOf_rep R hv e
    refine .inl ⟨a, ws, rfl, by rw [xo.K]; exact h1, ?_⟩
    rw [← h2.length]
    exact h.here R (.int _)
  · split at h
    · rename_i z _
      rw [rep_str hv]
      split at h
      · rename_i hz
        exact .inr (.inl ⟨z, rfl, by rw [← lim_eq]; exact hz, h.here R (.int _)⟩)
      · exact h.elim
    · cases q : dictOf S x with
      | none => rw [q] at h; exact h.elim
      | some kvs =>
        rw [q] at h
        obtain ⟨a, ws, rfl, h1, h2, h3⟩ := dictOf_rep R hv q
        refine .inr (.inr ⟨a, ws, rfl, h1, ?_⟩)
        have := h3.length
        rw [List.length_map, List.length_map] at this
        rw [← this]
        exact h.here R (.int _)
theorem ty_rep {A : List Addr} {H : Hp} {S : Store} {d : D} {v : V} {t : String} (K : PySem.W.Frag) (hK : K = G.K) (R : SRel G A H S) (r : Rep G A H d v) (e : tyD S d = some t) : TyX K H v (.type t) := by
  cases d with
  | non => cases e; cases r; exact .base .non
  | bl b => cases e; cases r; exact .base (.bl b)
  | int i => cases e; cases r; exact .base (.int i)
  | str x => cases e; cases r; exact .base (.str x)
  | ty n => cases e
  | own x => cases e
  | tup xs => cases e; obtain ⟨a, vs, rfl, h1, h2⟩ := rep_tup r; exact .base (.tup h1)
  | con xs =>
    cases e
    cases r with
    | con h t =>
      rcases h with ⟨ob, h⟩ | ⟨o, its, m, h1, h2, _⟩
      · exact .base (.frz h)
      · exact .kList (by rw [hK]; exact h1) h2
  | ref n =>
    simp only [tyD] at e
    split at e
    · rename_i xs q
      cases e
      obtain ⟨a, vs, rfl, _, h2, h3⟩ := rep_lst R r q
      exact .base (.lst h2)
    · rename_i kvs q
      cases e
      obtain ⟨a, vs, rfl, _, h2, h3, h4⟩ := rep_dic R r q
      exact .base (.dK h2)
    · cases e
theorem tyD_mem {S : Store} {d : D} {t : String} (e : tyD S d = some t) : t = "NoneType" ∨ t = "bool" ∨ t = "int" ∨ t = "str" ∨ t = "tuple" ∨ t = "list" ∨ t = "dict" := by
  cases d with
  | ref n =>
    simp only [tyD] at e
    split at e <;> first | (cases e; simp) | cases e
  | _ => first | (cases e; simp) | cases e
theorem isa_kit {t T : String} {b : Bool} (ht : t = "NoneType" ∨ t = "bool" ∨ t = "int" ∨ t = "str" ∨ t = "tuple" ∨ t = "list" ∨ t = "dict") (e : isaT t T = some b) : kitB t T = some b := by
  unfold isaT at e
  rcases ht with rfl | rfl | rfl | rfl | rfl | rfl | rfl <;> (split at e <;> first | (cases e; decide +kernel) | cases e)
theorem blt_isi (xo : Xok G X n) : ∃ r, CallR X (.builtin "isinstance") r ∧ CallOk G r (bltD .isi) := by
  refine ⟨_, call_isi, fun A H S ds vs Q E R hx h => ?_⟩
  unfold bltD at h
  split at h <;> try exact h.elim
  all_goals (rename_i hf; try cases hf)
  rename_i x c
  obtain ⟨v, w, rfl, hv, hw⟩ := repL2 hx
  unfold isiD at h
  split at h
  · rename_i T
    cases q : tyD S x with
    | none => rw [q] at h; exact h.elim
    | some t =>
      rw [q] at h
      dsimp only [Option.bind_some] at h
      cases q2 : isaT t T with
      | none => rw [q2] at h; exact h.elim
      | some b =>
        rw [q2] at h
        cases hw
        exact ⟨v, .ty T, .type t, .type T, b, rfl, .ty T, ty_rep X.K xo.K R hv q, kit_ty (isa_kit (tyD_mem q) q2), h.here R (.bl b)⟩
  · exact h.elim
theorem blt_all (xo : Xok G X n) : ∃ r, CallR X (.builtin "all") r ∧ CallOk G r (bltD .all) := by
  refine ⟨_, cr_all xo.calm, fun A H S ds vs Q E R hx h => ?_⟩
  unfold bltD at h
  split at h <;> try exact h.elim
  all_goals (rename_i hf; try cases hf)
  rename_i x
  obtain ⟨v, rfl, hv⟩ := repL1 hx
  cases q : lstOf S x with
  | none => rw [q] at h; exact h.elim
  | some xs =>
    rw [q] at h
    dsimp only [Option.bind_some] at h
    cases q2 : blsOf xs with
    | none => rw [q2] at h; exact h.elim
    | some bs =>
      rw [q2] at h
      obtain ⟨a, ws, rfl, h1, h2⟩ := lstOf_rep R hv q
      rw [blsOf_rep h2 q2] at h1
      exact ⟨a, bs, rfl, by rw [xo.K]; exact h1, h.here R (.bl _)⟩
theorem blt_any (xo : Xok G X n) : ∃ r, CallR X (.builtin "any") r ∧ CallOk G r (bltD .any) := by
  refine ⟨_, cr_any xo.calm, fun A H S ds vs Q E R hx h => ?_⟩
  unfold bltD at h
  split at h <;> try exact h.elim
  all_goals (rename_i hf; try cases hf)
  rename_i x
  obtain ⟨v, rfl, hv⟩ := repL1 hx
  cases q : lstOf S x with
  | none => rw [q] at h; exact h.elim
  | some xs =>
    rw [q] at h
    dsimp only [Option.bind_some] at h
    cases q2 : blsOf xs with
    | none => rw [q2] at h; exact h.elim
    | some bs =>
      rw [q2] at h
      obtain ⟨a, ws, rfl, h1, h2⟩ := lstOf_rep R hv q
      rw [blsOf_rep h2 q2] at h1
      exact ⟨a, bs, rfl, by rw [xo.K]; exact h1, h.here R (.bl _)⟩
theorem lst_ints {A : List Addr} {H : Hp} {S : Store} {x : D} {v : V} {ns : List Int} (R : SRel G A H S) (hv : Rep G A H x v) (e : (lstOf S x).bind intsOf = some ns) : ∃ a, v = .ref a ∧ SqL G.K H a (ns.map V.int) := by
  cases q : lstOf S x with
  | none => rw [q] at e; cases e
  | some xs =>
    rw [q] at e
    obtain ⟨a, ws, rfl, h1, h2⟩ := lstOf_rep R hv q
    rw [intsOf_rep h2 e] at h1
    exact ⟨a, rfl, h1⟩
theorem blt_sum (xo : Xok G X n) : ∃ r, CallR X (.builtin "sum") r ∧ CallOk G r (bltD .sum) := by
  refine ⟨_, cr_sum xo.calm, fun A H S ds vs Q E R hx h => ?_⟩
  unfold bltD at h
  split at h <;> try exact h.elim
  all_goals (rename_i hf; try cases hf)
  rename_i x
  obtain ⟨v, rfl, hv⟩ := repL1 hx
  cases q : (lstOf S x).bind intsOf with
  | none => rw [q] at h; exact h.elim
  | some ns =>
    rw [q] at h
    obtain ⟨a, rfl, h1⟩ := lst_ints R hv q
    exact ⟨a, ns, rfl, by rw [xo.K]; exact h1, h.here R (.int _)⟩
theorem foldl_max : ∀ (l : List Int) (x : Int), (l.foldl max x = x ∨ l.foldl max x ∈ l) ∧ x ≤ l.foldl max x ∧ ∀ y ∈ l, y ≤ l.foldl max x
  | [], x => by simp
  | a :: l, x => by
    obtain ⟨h1, h2, h3⟩ := foldl_max l (max x a)
    rw [List.foldl_cons]
    refine ⟨?_, by omega, fun y hy => ?_⟩
    · rcases h1 with h | h
      · rw [h]
        by_cases hx : x ≤ a
        · right; simp [Int.max_eq_right hx]
        · left; omega
      · right; exact List.mem_cons_of_mem _ h
    · rcases List.mem_cons.mp hy with rfl | hy
      · omega
      · exact h3 y hy
theorem foldl_min : ∀ (l : List Int) (x : Int), (l.foldl min x = x ∨ l.foldl min x ∈ l) ∧ l.foldl min x ≤ x ∧ ∀ y ∈ l, l.foldl min x ≤ y
  | [], x => by simp
  | a :: l, x => by
    obtain ⟨h1, h2, h3⟩ := foldl_min l (min x a)
    rw [List.foldl_cons]
    refine ⟨?_, by omega, fun y hy => ?_⟩
    · rcases h1 with h | h
      · rw [h]
        by_cases hx : a ≤ x
        · right; simp [Int.min_eq_right hx]
        · left; omega
      · right; exact List.mem_cons_of_mem _ h
    · rcases List.mem_cons.mp hy with rfl | hy
      · omega
      · exact h3 y hy
theorem maxL_uniq {ns : List Int} {m : Int} (hm : m ∈ ns) (hy : ∀ y, y ∈ ns → y ≤ m) : maxL ns = m := by
  cases ns with
  | nil => cases hm
  | cons a l =>
    obtain ⟨h1, h2, h3⟩ := foldl_max l a
    show l.foldl max a = m
    have u1 : l.foldl max a ≤ m := by
      rcases h1 with h | h
      · rw [h]; exact hy _ List.mem_cons_self
      · exact hy _ (List.mem_cons_of_mem _ h)
    have u2 : m ≤ l.foldl max a := by
      rcases List.mem_cons.mp hm with rfl | hm
      · exact h2
      · exact h3 m hm
    omega
theorem minL_uniq {ns : List Int} {m : Int} (hm : m ∈ ns) (hy : ∀ y, y ∈ ns → m ≤ y) : minL ns = m := by
  cases ns with
  | nil => cases hm
  | cons a l =>
    obtain ⟨h1, h2, h3⟩ := foldl_min l a
    show l.foldl min a = m
    have u1 : m ≤ l.foldl min a := by
      rcases h1 with h | h
      · rw [h]; exact hy _ List.mem_cons_self
      · exact hy _ (List.mem_cons_of_mem _ h)
    have u2 : l.foldl min a ≤ m := by
      rcases List.mem_cons.mp hm with rfl | hm
      · exact h2
      · exact h3 m hm
    omega
theorem blt_max2 (xo : Xok G X n) : ∃ r, CallR X (.builtin "max") r ∧ CallOk G r (bltD .max2) := by
  refine ⟨_, call_max2 xo.calm, fun A H S ds vs Q E R hx h => ?_⟩
  unfold bltD at h
  split at h <;> try exact h.elim
  all_goals (rename_i hf; try cases hf)
  rename_i i j
  obtain ⟨v, w, rfl, hv, hw⟩ := repL2 hx
  rw [rep_int hv, rep_int hw]
  exact ⟨i, j, rfl, h.here R (.int _)⟩
theorem blt_min2 (xo : Xok G X n) : ∃ r, CallR X (.builtin "min") r ∧ CallOk G r (bltD .min2) := by
  refine ⟨_, call_min2 xo.calm, fun A H S ds vs Q E R hx h => ?_⟩
  unfold bltD at h
  split at h <;> try exact h.elim
  all_goals (rename_i hf; try cases hf)
  rename_i i j
  obtain ⟨v, w, rfl, hv, hw⟩ := repL2 hx
  rw [rep_int hv, rep_int hw]
  exact ⟨i, j, rfl, h.here R (.int _)⟩
theorem blt_max1 (xo : Xok G X n) : ∃ r, CallR X (.builtin "max") r ∧ CallOk G r (bltD .max1) := by
  refine ⟨_, cr_max xo.calm, fun A H S ds vs Q E R hx h => ?_⟩
  unfold bltD at h
  split at h <;> try exact h.elim
  all_goals (rename_i hf; try cases hf)
  rename_i x
  obtain ⟨v, rfl, hv⟩ := repL1 hx
  split at h
  · rename_i ns q
    split at h
    · rename_i hl
      obtain ⟨a, rfl, h1⟩ := lst_ints R hv q
      refine ⟨a, ns, rfl, by rw [xo.K]; exact h1, hl, fun m hm hy => ?_⟩
      rw [← maxL_uniq hm hy]
      exact h.here R (.int _)
    · exact h.elim
  · exact h.elim
theorem blt_min1 (xo : Xok G X n) : ∃ r, CallR X (.builtin "min") r ∧ CallOk G r (bltD .min1) := by
  refine ⟨_, cr_min xo.calm, fun A H S ds vs Q E R hx h => ?_⟩
  unfold bltD at h
  split at h <;> try exact h.elim
  all_goals (rename_i hf; try cases hf)
  rename_i x
  obtain ⟨v, rfl, hv⟩ := repL1 hx
  split at h
  · rename_i ns q
    split at h
    · rename_i hl
      obtain ⟨a, rfl, h1⟩ := lst_ints R hv q
      refine ⟨a, ns, rfl, by rw [xo.K]; exact h1, hl, fun m hm hy => ?_⟩
      rw [← minL_uniq hm hy]
      exact h.here R (.int _)
    · exact h.elim
  · exact h.elim
theorem blt_list (xo : Xok G X n) : ∃ r, CallR X (.type "list") r ∧ CallOk G r (bltD .list) := by
  refine ⟨_, call_list_of, fun A H S ds vs Q E R hx h => ?_⟩
  unfold bltD at h
  split at h <;> try exact h.elim
  all_goals (rename_i hf; try cases hf)
  rename_i x
  obtain ⟨v, rfl, hv⟩ := repL1 hx
  split at h
  · rename_i xs q
    obtain ⟨a, ws, rfl, h1, h2⟩ := seqOf_rep R hv q
    exact ⟨a, ws, rfl, by rw [xo.K]; exact h1, fun p hp => fin_lst R h h2 p hp⟩
  · exact h.elim
theorem blt_tuple (xo : Xok G X n) : ∃ r, CallR X (.type "tuple") r ∧ CallOk G r (bltD .tuple) := by
  refine ⟨_, call_tuple_of, fun A H S ds vs Q E R hx h => ?_⟩
  unfold bltD at h
  split at h <;> try exact h.elim
  all_goals (rename_i hf; try cases hf)
  rename_i x
  obtain ⟨v, rfl, hv⟩ := repL1 hx
  cases q : seqOf S x with
  | none => rw [q] at h; exact h.elim
  | some xs =>
    rw [q] at h
    cases x with
    | tup ys =>
      cases q
      obtain ⟨a, ws, rfl, h1, h2⟩ := rep_tup hv
      exact ⟨a, ws, rfl, .inr ⟨.of h1, h.here R hv⟩⟩
    | con ys =>
      obtain ⟨a, ws, rfl, h1, h2⟩ := lstOf_rep (xs := xs) R hv (by simpa [lstOf, seqOf] using q)
      exact ⟨a, ws, rfl, .inl ⟨by rw [xo.K]; exact h1, fun p hp => fin_tup R h h2 p hp⟩⟩
    | ref m =>
      obtain ⟨a, ws, rfl, h1, h2⟩ := lstOf_rep (xs := xs) R hv (by simpa [lstOf, seqOf] using q)
      exact ⟨a, ws, rfl, .inl ⟨by rw [xo.K]; exact h1, fun p hp => fin_tup R h h2 p hp⟩⟩
    | _ => simp [seqOf] at q
theorem blt_int (xo : Xok G X n) : ∃ r, CallR X (.type "int") r ∧ CallOk G r (bltD .int) := by
  refine ⟨_, call_int1, fun A H S ds vs Q E R hx h => ?_⟩
  unfold bltD at h
  split at h <;> try exact h.elim
  all_goals (rename_i hf; try cases hf)
  · rename_i i
    obtain ⟨v, rfl, hv⟩ := repL1 hx
    rw [rep_int hv]
    exact .inl ⟨i, rfl, h.here R (.int _)⟩
  · rename_i i
    obtain ⟨v, rfl, hv⟩ := repL1 hx
    rw [rep_bl hv]
    exact .inr ⟨i, rfl, h.here R (.int _)⟩
/-! ### repr -/
theorem call_repr_data (sm : SmOk X.base) (hu : X.A.units + 200 < cLine) (hg : X.A.guards = some []) : CallR X (.builtin "repr") (fun xs H Q => ∃ x p, xs = [x] ∧ (∀ pins s σ u, Inv X pins σ H s → RelV x u → ∃ as, Reads s.heap u p as ∧ sysModules ∉ as) ∧ p.showable = true ∧ p.depth ≤ 64 ∧ p.shown.length ≤ sizeLine ∧ Q (.str p.shown) H) := by
  intro pins s σ H xs us Q I r h
  obtain ⟨x, p, rfl, hr, hs, hd, hz, q⟩ := h
  obtain ⟨u, rfl, rx⟩ := vals1 r
  obtain ⟨as, r1, r2⟩ := hr pins s σ u I rx
  have fin : ∀ (h' : Heap) (t : Tok) (tk : Nat), (∀ b o, s.heap.get? b = some o → h'.get? b = some o) → EP X pins σ Q (.str p.shown t) { s with heap := h', toks := tk } :=
    fun h' t tk k => ⟨.str p.shown, H, I.kept (t' := tk) k, ⟨t, rfl⟩, q⟩
  cases r1 with
  | none => exact PySem.P.repr_of_none (fin _ _ _ fun _ _ e => e)
  | bool b => exact PySem.P.repr_of_bool (fin _ _ _ fun _ _ e => e)
  | int i t => exact PySem.P.repr_of_int (by simpa [PyData.showable] using hs) (fin _ _ _ fun _ _ e => e)
  | str z t => exact PySem.P.repr_of_str (fin _ _ _ fun _ _ e => e) hz
  | list a b c d => exact repr_of_reads' (.list a b c d) hs (fun _ => r2) hg (by omega) (fun _ _ e => e) (fun h' t tk k => fin h' t tk k) hz
  | tuple a b c d => exact repr_of_reads' (.tuple a b c d) hs (fun _ => r2) hg (by omega) (fun _ _ e => e) (fun h' t tk k => fin h' t tk k) hz
  | dict a b c d e => exact repr_of_reads' (.dict a b c d e) hs (fun _ => r2) hg (by omega) (fun _ _ e => e) (fun h' t tk k => fin h' t tk k) hz
theorem Xok.u200 (h : Xok G X n) : X.A.units + 200 < cLine := by have := h.room.un; omega
theorem blt_repr (xo : Xok G X n) (sm : SmOk X.base) : ∃ r, CallR X (.builtin "repr") r ∧ CallOk G r (bltD .repr) := by
  refine ⟨_, call_repr_data sm xo.u200 xo.gd, fun A H S ds vs Q E R hx h => ?_⟩
  unfold bltD at h
  split at h <;> try exact h.elim
  all_goals (rename_i hf; try cases hf)
  rename_i x
  obtain ⟨v, rfl, hv⟩ := repL1 hx
  split at h
  · rename_i p q
    split at h
    · rename_i hc
      rw [Bool.and_eq_true, decide_eq_true_eq] at hc
      exact ⟨v, p, rfl, fun pins s σ u I rx => toPy_reads sm xo.K I R _ _ _ _ _ q hv rx, hc.1, Nat.le_trans (toPy_depth _ _ _ q) (by decide), by rw [← lim_eq]; exact hc.2, h.here R (.str _)⟩
    · exact h.elim
  · exact h.elim
end
end MP

namespace MP
open PySem L2
section
variable {prog : Program} {w : World} {A : Around} {E : Value → Shared → Prop} {s : Shared}
/-- the items of a tuple gathered -/
theorem gather_tup {l : Addr} {vs : List Value} {Q : List Value → Shared → Prop} (hl : s.heap.IsTuple l vs.toArray) (hz : vs.length ≤ sizeLine)
    (h : Q vs { s with heap := (s.heap.push (PyProof.Rows.seqObj "list" #[] 0)).update s.heap.objs.size (Obj.mapSeq (· ++ vs.toArray)) }) :
    wpAny (model prog w) A (collect (.ref l)) Q E s := by
  obtain ⟨o, ho, hc, n, hd⟩ := id hl
  have ho1 : (s.heap.push (PyProof.Rows.seqObj "list" #[] 0)).get? l = some o := Heap.get?_push_of_some _ ho
  have new1 : (s.heap.push (PyProof.Rows.seqObj "list" #[] 0)).get? s.heap.objs.size = some (PyProof.Rows.seqObj "list" #[] 0) := Heap.get?_push_size _ rfl
  unfold collect
  refine wpAny_bind (wpAny_runValue (codeAny_builtin PyProof.Rows.entry_proto_collect' ?_))
  show wpAny _ _ (do again (.builtin "list.__iadd__" ⟨[← newList [], .ref l], []⟩)) _ _ s
  refine wpAny_bind (wpAny_newList (wpAny_pure ⟨Code.quiet_builtin _ (by decide +kernel), codeAny_builtin PyProof.Rows.entry_list_iadd' ?_⟩))
  show wpAny _ _ (Builtin.List.listExtendWith (.ref s.heap.objs.size) (.ref l) (.ref s.heap.objs.size)) _ _ { s with heap := s.heap.push (PyProof.Rows.seqObj "list" #[] 0) }
  unfold Builtin.List.listExtendWith
  refine wpAny_bind (wpAny_typeOf (T := "tuple") ⟨o, ho1, hc⟩ ?_)
  rw [if_pos (show (Builtin.List.listSameRef (.ref s.heap.objs.size) (.ref l) || Value.type "tuple" == .type "list" || Value.type "tuple" == .type "tuple") = true by
    rw [show (Value.type "tuple" == Value.type "tuple") = true from rfl]; simp)]
  refine wpAny_bind (PyProof.Rows.listItems_at ho1 hd (wpAny_bind (PyProof.Rows.listItems_at (xs := #[]) (n := 0) new1 rfl ?_)))
  rw [if_neg (by simp)]
  have hz2 : ((#[] : Array Value) ++ vs.toArray).size ≤ sizeLine + 1 := by
    simp only [Array.size_append, List.size_toArray, List.length_nil]
    omega
  refine wpAny_bind (PyProof.Rows.listUpdate_at (xs := #[]) (n := 0) new1 rfl ?_ (Nat.zero_le _) hz2)
  refine wpAny_pure ?_
  show wpAny (model prog w) A (load s.heap.objs.size >>= fun ob => match ob.data with
      | .seq xs _ => pure xs.toList
      | _ => unsupported "internal:collect") Q E { s with heap := (s.heap.push (PyProof.Rows.seqObj "list" #[] 0)).update s.heap.objs.size (Obj.mapSeq (· ++ vs.toArray)) }
  refine wpAny_bind (wpAny_load (PyProof.Rows.get?_update_seq new1 _) ?_)
  show wpAny _ _ (pure ((#[] : Array Value) ++ vs.toArray).toList) Q E _
  have e : ((#[] : Array Value) ++ vs.toArray).toList = vs := by simp
  rw [e]
  exact wpAny_pure h
/-- sorted(a tuple) -/
theorem sorted_tupv {κ : PyProof.Rows.KeyKind} {l : Addr} {vs : List Value} {Q : Value → Shared → Prop} (hl : s.heap.IsTuple l vs.toArray) (hL : vs.length ≤ sizeLine)
    (Z : PySem.W.SortsAt prog w A.in1.in1 { s with heap := PySem.W.sortingHeap (PySem.W.copyHeap s.heap vs) (s.heap.objs.size + 1) vs } κ vs)
    (h : Q (.ref (s.heap.objs.size + 1)) { s with heap := PyProof.Rows.sortedAll s.heap vs (PySem.W.sortVals κ false vs vs).toArray }) : wpAny (model prog w) A (call (.builtin "sorted") [.ref l]) Q E s := by
  refine Calls.call_function_entry PyProof.Rows.kind_sorted PyProof.Rows.plain_sorted PyProof.Rows.entry_sorted (PyProof.Rows.args_sorted1 _) ?_
  unfold Builtin.«sorted»
  refine wpAny_bind (m := checkCount "sorted" 1 1 _) (wpAny_pure ?_)
  refine wpAny_bind (gather_tup hl hL ?_)
  refine wpAny_bind (wpAny_newList ?_ hL)
  have hz : ((s.heap.push (PyProof.Rows.seqObj "list" #[] 0)).update s.heap.objs.size (Obj.mapSeq (· ++ vs.toArray))).objs.size = s.heap.objs.size + 1 := by
    rw [Heap.size_update, PyProof.Rows.size_push']
  show wpAny _ _ _ _ _ { s with heap := PySem.W.copyHeap s.heap vs }
  rw [hz]
  refine wpAny_bind (wpAny_holding (wpAny_call_entry PyProof.Rows.slot_list_sort ⟨_, PySem.W.copyHeap_at s.heap vs, rfl⟩ PyProof.Rows.entry_list_sort ?bd (PyProof.Rows.args_list_sort _)))
  case bd =>
    refine PySem.W.list_sort_vals (s := { s with heap := PySem.W.copyHeap s.heap vs }) (PySem.W.copyHeap_at s.heap vs) Z hL ?_
    exact ⟨_, rfl, wpAny_pure ⟨_, rfl, h⟩⟩
end
section
variable {G : Gx} {X : Cx} {n : Nat}
def rSor (X : Cx) : List V → Hp → VK → Prop := fun vs H Q => ∃ (a : Addr) (bs : List (V × PyData)), vs = [.ref a] ∧ (SqL X.K H a (bs.map Prod.fst) ∨ SqT X.K H a (bs.map Prod.fst)) ∧
  (∀ pins s σ, Inv X pins σ H s → ∀ its, Vals (bs.map Prod.fst) its → PySem.W.EachIs (fun v b => ∃ as, Reads s.heap v b.2 as) its bs) ∧
  PySem.W.AllAlike (bs.map Prod.snd) ∧ PySem.W.Sortable (bs.map Prod.snd) ∧ (∀ b ∈ bs, b.2.depth ≤ 64) ∧
  ∀ p, H p = none → Q (.ref p) (upd H p (.lst ((bs.mergeSort (PySem.W.dataLe false Prod.snd)).map Prod.fst)))
theorem each_vals : ∀ {bs : List (V × PyData)} {its : List Value}, Vals (bs.map Prod.fst) its → PySem.W.EachIs (fun v (b : V × PyData) => RelV b.1 v) its bs
  | [], _, .nil => .nil
  | _ :: _, _, .cons r t => .cons r (each_vals t)
theorem vals_each : ∀ {bs : List (V × PyData)} {its : List Value}, PySem.W.EachIs (fun v (b : V × PyData) => RelV b.1 v) its bs → Vals (bs.map Prod.fst) its
  | _, _, .nil => .nil
  | _, _, .cons r t => .cons r (vals_each t)
theorem cr_sor (hu : X.A.units + 200 < cLine) : CallR X (.builtin "sorted") (rSor X) := by
  intro pins s σ H vs us Q I r h
  obtain ⟨a, bs, rfl, hq, hr, hal, hk, hd, q⟩ := h
  rw [Vals.ref1 r]
  have fin : ∀ (its out : List Value), its.length = bs.length → bs.length ≤ sizeLine → out.length = bs.length → PySem.W.EachIs (fun v (b : V × PyData) => RelV b.1 v) out (bs.mergeSort (PySem.W.dataLe false Prod.snd)) →
      EP X pins σ Q (.ref (s.heap.objs.size + 1)) { s with heap := PyProof.Rows.sortedAll s.heap its out.toArray } := by
    intro its out hn hz ho he
    obtain ⟨ep, he'⟩ := PyProof.Rows.sortedAll_at s.heap its out.toArray
    refine ⟨.ref _, _, I.laid (t' := s.toks) (fun _ _ => PyProof.Rows.sortedAll_old) (Nat.le_succ _) (o := .lst _) ⟨?_, out, ep, vals_each he, he'⟩, rfl, q _ (I.hok.fresh (Nat.le_succ _))⟩
    rw [List.length_map, List.length_mergeSort]
    exact hz
  rcases hq with hq | hq
  · obtain ⟨its, rv, hl, hz⟩ := I.list hq
    have er := hr pins s σ I its rv
    have hn := rv.length
    rw [List.length_map] at hn hz
    exact PySem.W.sorted_data (enc := Prod.snd) hl.isList (each_vals rv) er hal hk hz (fun b hb => by have := hd b hb; omega) fun out ho he => fin its out hn.symm hz ho he
  · obtain ⟨its, rv, hl, hz⟩ := I.tuple hq
    have er := hr pins s σ I its rv
    have hn := rv.length
    rw [List.length_map] at hn hz
    have er' : PySem.W.EachIs (fun v (b : V × PyData) => ∃ as, Reads (PySem.W.sortingHeap (PySem.W.copyHeap s.heap its) (s.heap.objs.size + 1) its) v b.2 as) its bs :=
      er.mono fun _ _ ⟨as, r⟩ => ⟨as, PyProof.Rows.Reads.keeps (fun _ _ => PySem.W.sorting_copy_old) r⟩
    refine sorted_tupv (κ := PySem.W.dataKind (PySem.W.sortingHeap (PySem.W.copyHeap s.heap its) (s.heap.objs.size + 1) its) (bs.map Prod.snd)) (show s.heap.IsTuple a its.toArray from hl) (by rw [← hn]; exact hz)
      (PySem.W.SortsAt.data (s := { s with heap := PySem.W.sortingHeap (PySem.W.copyHeap s.heap its) (s.heap.objs.size + 1) its }) (PySem.W.each_map (R := fun v d => ∃ as, Reads (PySem.W.sortingHeap (PySem.W.copyHeap s.heap its) (s.heap.objs.size + 1) its) v d as) Prod.snd er') hal hk ?_) ?_
    · intro d hd'
      obtain ⟨b, hb, rfl⟩ := List.mem_map.mp hd'
      have := hd b hb
      show X.A.units + 1 + 1 + b.2.depth < cLine
      omega
    · exact fin its _ hn.symm hz (by rw [PySem.W.sortVals_length false rfl]; exact hn.symm) (PySem.W.sortVals_data false (each_vals rv) er' hal)
theorem repL_of {A : List Addr} {H : Hp} : ∀ {ts : List (D × V × PyData)}, (∀ t ∈ ts, Rep G A H t.1 t.2.1) → RepL G A H (ts.map (·.1)) (ts.map (·.2.1))
  | [], _ => .nil
  | t :: ts, h => .cons (h t List.mem_cons_self) (repL_of fun t' ht => h t' (List.mem_cons_of_mem _ ht))
theorem triples {A : List Addr} {H : Hp} {g : D → Option PyData} : ∀ {xs : List D} {ps : List PyData} {vs : List V}, Paired (fun x p => g x = some p) xs ps → RepL G A H xs vs →
    ∃ ts : List (D × V × PyData), ts.map (·.1) = xs ∧ ts.map (·.2.1) = vs ∧ ts.map (·.2.2) = ps ∧ ∀ t ∈ ts, Rep G A H t.1 t.2.1 ∧ g t.1 = some t.2.2
  | _, _, _, .nil, .nil => ⟨[], rfl, rfl, rfl, by simp⟩
  | _, _, _, .cons (a := x) (b := p) e t, .cons (v := v) r rt => by
    obtain ⟨ts, h1, h2, h3, h4⟩ := triples t rt
    refine ⟨(x, v, p) :: ts, by simp [h1], by simp [h2], by simp [h3], fun t' ht => ?_⟩
    rcases List.mem_cons.mp ht with rfl | ht
    · exact ⟨r, e⟩
    · exact h4 t' ht
theorem each_of_triples {g : D → Option PyData} {A : List Addr} {H : Hp} {s : Shared} (hg : ∀ d p v u, g d = some p → Rep G A H d v → RelV v u → ∃ as, Reads s.heap u p as ∧ sysModules ∉ as) :
    ∀ {ts : List (D × V × PyData)} {its : List Value}, (∀ t ∈ ts, Rep G A H t.1 t.2.1 ∧ g t.1 = some t.2.2) → Vals (ts.map (·.2.1)) its → PySem.W.EachIs (fun v (b : V × PyData) => ∃ as, Reads s.heap v b.2 as) its (ts.map (·.2))
  | [], _, _, .nil => .nil
  | t :: ts, _, h, .cons r rt => by
    obtain ⟨h1, h2⟩ := h t List.mem_cons_self
    obtain ⟨as, q, _⟩ := hg _ _ _ _ h2 h1 r
    exact .cons ⟨as, q⟩ (each_of_triples hg (fun t' ht => h t' (List.mem_cons_of_mem _ ht)) rt)
theorem alike_of {ps : List PyData} (h : allAlike ps = true) : PySem.W.AllAlike ps := by
  unfold allAlike at h
  intro d hd d' hd'
  exact List.all_eq_true.mp (List.all_eq_true.mp h d hd) d' hd'
theorem sortable_of {ps : List PyData} (h : sortable ps = true) : PySem.W.Sortable ps := by
  unfold sortable at h
  rw [Bool.or_eq_true] at h
  rcases h with h | h
  · refine .inl fun d hd => ?_
    have := List.all_eq_true.mp h d hd
    split at this
    · exact ⟨_, _, rfl⟩
    · cases this
  · refine .inr fun d hd => ?_
    have := List.all_eq_true.mp h d hd
    refine ⟨?_, ?_⟩
    · rintro rfl; cases this
    · rintro xs rfl; cases this
theorem blt_sorted (xo : Xok G X n) (sm : SmOk X.base) : ∃ r, CallR X (.builtin "sorted") r ∧ CallOk G r (bltD .sorted) := by
  refine ⟨_, cr_sor xo.u200, fun A H S ds vs Q E R hx h => ?_⟩
  unfold bltD at h
  split at h <;> try exact h.elim
  all_goals (rename_i hf; try cases hf)
  rename_i x
  obtain ⟨v, rfl, hv⟩ := repL1 hx
  split at h
  · rename_i ys q
    cases q1 : seqOf S x with
    | none => rw [q1] at q; cases q
    | some xs =>
      rw [q1] at q
      dsimp only [Option.bind_some] at q
      unfold sortD at q
      cases q2 : xs.mapM (toPy S dep) with
      | none => rw [q2] at q; cases q
      | some ps =>
        rw [q2] at q
        dsimp only [Option.bind_some] at q
        split at q
        · rename_i hc
          rw [Bool.and_eq_true] at hc
          have q' := Option.some.inj q
          obtain ⟨a, ws, rfl, h1, h2⟩ := seqOf_rep R hv q1
          obtain ⟨ts, t1, t2, t3, t4⟩ := triples (mapM_some q2) h2
          have e2 : (ts.map (·.2)).map Prod.fst = ws := by rw [List.map_map]; exact t2
          have e3 : (ts.map (·.2)).map Prod.snd = ps := by rw [List.map_map]; exact t3
          refine ⟨a, ts.map (·.2), rfl, ?_, fun pins s σ I its rv => ?_, ?_, ?_, fun b hb => ?_, fun p hp => ?_⟩
          · rw [e2, xo.K]; exact h1
          · rw [e2, ← t2] at rv
            exact each_of_triples (fun d p v u e r rv => toPy_reads sm xo.K I R dep d p v u e r rv) t4 rv
          · rw [e3]; exact alike_of hc.1
          · rw [e3]; exact sortable_of hc.2
          · obtain ⟨t, ht, rfl⟩ := List.mem_map.mp hb
            exact Nat.le_trans (toPy_depth _ _ _ (t4 t ht).2) (by decide)
          · have z : xs.zip ps = ts.map fun t => (t.1, t.2.2) := by
              rw [← t1, ← t3, List.zip_map', ]
            have m1 : ((ts.mergeSort (PySem.W.dataLe false (fun t : D × V × PyData => t.2.2))).map fun t => (t.1, t.2.2)) = (xs.zip ps).mergeSort (PySem.W.dataLe false Prod.snd) := by
              rw [z]
              exact List.map_mergeSort fun a _ b _ => rfl
            have m2 : ((ts.mergeSort (PySem.W.dataLe false (fun t : D × V × PyData => t.2.2))).map fun t => t.2) = (ts.map (·.2)).mergeSort (PySem.W.dataLe false Prod.snd) :=
              List.map_mergeSort fun a _ b _ => rfl
            rw [← m2, List.map_map]
            rw [← m1, List.map_map] at q'
            refine fin_lst (xs := ys) R h ?_ p hp
            rw [← q']
            exact repL_of fun t ht => (t4 t (List.mem_mergeSort.mp ht)).1
        · cases q
  · exact h.elim
end
end MP

namespace MP
open PySem L2

/-- a def's promise where no repr is under way -/
structure FnG (P : Program) (w : World) (K : PySem.W.Frag) (mg : Str → Option Value) (base : Heap) (k : Nat) (f : Addr) (fd : FuncData) (ps : List Str) (sp : Sp) : Prop where
  len : ∀ vs H Q E, sp vs H Q E → vs.length = ps.length
  run : ∀ (A : Around) (outer : List PySem.Env) (s : Shared) (H : Hp) (args : Args) (us : List Value) (vs : List V) (Q : VK) (E : XK), Room k A → A.guards = some [] →
    Env0 P w K mg base A outer s H → BindsTo s fd args (ps.zip us) → Vals vs us → sp vs H Q E → codeAny (model P w) A (.call (.ref f) args) (CR (L2.CX P w) outer P w H s Q E) s
theorem FnG.mono {P : Program} {w : World} {K : PySem.W.Frag} {mg : Str → Option Value} {base : Heap} {j k : Nat} {f : Addr} {fd : FuncData} {ps : List Str} {sp : Sp} (F : FnG P w K mg base j f fd ps sp) (h : j ≤ k) : FnG P w K mg base k f fd ps sp :=
  ⟨F.len, fun A outer s H args us vs Q E hr => F.run A outer s H args us vs Q E (hr.mono h)⟩

theorem guards_deeper (A : Around) (env : PySem.Env) : (A.deeper env).guards = A.guards := by rfl

/-- a def by its body -/
theorem fnG_of {P : Program} {w : World} {K : PySem.W.Frag} {mg : Str → Option Value} {base : Heap} {k : Nat} {f : Addr} {name qual : Str} {params : Arguments} {body : List Stmt} {scope : Scope} {dV kV doc pm cdv ct oc : Value} {an od : Option Addr}
    {osl : Array (Option Value)} {N ps : List Str} {sp : Sp} (lk : K.lookup f = some ⟨oc, od, .func (PySem.W.fnOf name qual params body scope dV kV doc pm an cdv ct), osl⟩) (hcd : PySem.W.codeIn K cdv qual = true)
    (F : FnScope N ps scope) (len : ∀ vs H Q E, sp vs H Q E → vs.length = ps.length)
    (bd : ∀ (A : Around) (outer : List PySem.Env) (s : Shared) (H : Hp) (vs : List V) (Q : VK) (E : XK), Room k (A.deeper (PyProof.Rows.envOfC qual scope s.heap.objs.size f cdv)) → A.guards = some [] → sp vs H Q E →
      ∃ t, PSs (cxOf (L2.CX P w) P w K mg base N qual scope f cdv A outer s H E) body t ∧ t { nx := fun _ H' => Q .non H', rt := Q } (start N vs) H) :
    FnG P w K mg base (k + 1) f (PySem.W.fnOf name qual params body scope dV kV doc pm an cdv ct) ps sp where
  len := len
  run := by
    intro A outer s H args us vs Q E hr hg e0 hb r hsp
    have stays : ∀ b o, base.get? b = some o → s.heap.get? b = some o := fun b o e => (e0.bs b o e).1
    have KX : K.In s.heap := e0.mod.kin.keeps stays
    have nolim : s.heap.NoLimit := e0.mod.nolimit.keeps stays
    refine codeAny_call_function hr.depth (KX _ _ lk) rfl F.co F.gen rfl (PySem.W.codeRec_of KX hcd) (hb _ _ _ _ (wpAny_newFunctionEnv_cells F.kind ?_ fun env he s1 x => ?_))
    · rintro ⟨y, v⟩ hy
      rcases F.par y (List.of_mem_zip hy).1 with q | q
      · exact .inl q
      · exact .inr ⟨q, PySem.W.cellsFrom_some _ _ _ (.inl q)⟩
    · subst he
      refine ⟨nolim.keeps x.toInCall.keep, codeAny_func ?_⟩
      obtain ⟨t, ht, hq⟩ := bd A outer s H vs Q E (hr.deeper _) hg hsp
      have I := inv_start (CX := L2.CX P w) (E := E) F hr.hd e0 (len _ _ _ _ hsp) r x
      refine wpAny_mono (ht.run [] s1 (start N vs) H _ I hq) (fun fl s' hs => ?_) fun _ _ z => z
      match fl, hs with
      | .ret u, ⟨v, σ', H', J, rv, q⟩ => exact ⟨v, H', J.os, J.bare, J.base, J.hok, rv, q⟩
      | .next, ⟨σ', H', J, q⟩ => exact ⟨V.non, H', J.os, J.bare, J.base, J.hok, rfl, q⟩
      | .brk, ⟨_, _, _, q⟩ => exact False.elim q
      | .cont, ⟨_, _, _, q⟩ => exact False.elim q

section
variable {X : Cx} {k : Nat} {f : Addr} {fd : FuncData} {ps : List Str} {sp : Sp} {E : XK}
/-- the callee runs -/
theorem runG {pins : List (Addr × Obj)} {σ : St} {H : Hp} {s : Shared} {Q : VK} {us : List Value} {vs : List V} (F : FnG X.prog X.w X.K X.mg X.base k f fd ps sp) (hr : Room k X.A) (hg : X.A.guards = some []) (hb : Binds X.K fd ps [])
    (hx : Passes (L2.CX X.prog X.w) X E) (I : Inv X pins σ H s) (r : Vals vs us) (h : sp vs H Q E) : wpAny (model X.prog X.w) X.A (call (.ref f) us) (EP X pins σ Q) X.xe s := by
  have hl : us.length = ps.length := by rw [← r.length]; exact F.len _ _ _ _ h
  have hb' : BindsTo s fd ⟨us, []⟩ (ps.zip us) := by
    have z := hb s us I.kIn (by rw [List.append_nil]; exact hl)
    rw [List.append_nil] at z
    exact z
  refine wpAny_call (codeAny_mono (F.run X.A X.stack s H ⟨us, []⟩ us vs Q E hr hg I.env0 hb' r h) fun res s' hq => ?_)
  match res, hq with
  | .error e, hq => exact hx pins σ H s e s' I hq
  | .ok (.ret u), hq => exact I.after hq
  | .ok .next, hq => exact False.elim hq
  | .ok .brk, hq => exact False.elim hq
  | .ok .cont, hq => exact False.elim hq
def tCl (sp : Sp) (E : XK) (t : TA) : TE := fun σ H Q => t σ H fun vs H1 => sp vs H1 Q E
theorem pe_clG {x : Str} {p pos : Pos} {e : Expr} {es : List Expr} {t : TA} (F : FnG X.prog X.w X.K X.mg X.base k f fd ps sp) (hr : Room k X.A) (hgd : X.A.guards = some []) (hg : Gl X x) (hm : X.mg x = some (.ref f)) (hk : PySem.W.keepIn X.K (.ref f) = true)
    (hb : Binds X.K fd ps []) (hx : Passes (L2.CX X.prog X.w) X E) (ha : PA X (e :: es) t) (hdb : (x == ("__debug__" : Str)) = false)
    (he : starEach (e :: es) X.env = (false, eval e X.env) :: starEach es X.env) (hpl : (backTo pos (starEach es X.env)).any (·.1) = false) : PE X (.Call (.Name x p) (e :: es) [] pos) (tCl sp E t) := by
  refine ⟨fun pins s σ H Q I h => wpAny_Call_Name_kw (ld_glob I hg hm ?_ hdb)⟩
  refine PySem.W.callWith_K (h₀ := X.base) I.ok.mod.kin hk (thn (ha.run pos pins s σ H _ I h) fun us s1 hh => ?_) he hpl
  obtain ⟨vs, H1, I1, r, q⟩ := hh
  exact ⟨I1.kIn, runG F hr hgd hb hx I1 r q⟩
theorem pe_cl0G {x : Str} {p pos : Pos} (F : FnG X.prog X.w X.K X.mg X.base k f fd ps sp) (hr : Room k X.A) (hgd : X.A.guards = some []) (hg : Gl X x) (hm : X.mg x = some (.ref f)) (hk : PySem.W.keepIn X.K (.ref f) = true)
    (hb : Binds X.K fd ps []) (hx : Passes (L2.CX X.prog X.w) X E) (hdb : (x == ("__debug__" : Str)) = false) : PE X (.Call (.Name x p) [] [] pos) (tCl sp E tNil) := by
  refine ⟨fun pins s σ H Q I h => wpAny_Call_Name_kw (ld_glob I hg hm ?_ hdb)⟩
  exact PySem.W.callWith_K0 I.kIn hk (runG (us := []) F hr hgd hb hx I .nil h)
end
end MP

namespace MP
open PySem L2

def asB (r : Res D) : Res Bool := r.bind fun x S => match x with
  | .bl b => .ok b S
  | _ => .bad
def FinB (G : Gx) (A : List Addr) (H : Hp) (r : Res D) (Q : Bool → Hp → Prop) (E : XK) : Prop := Fin (fun _ _ (b b' : Bool) => b = b') G A H (asB r) Q E
def STb (G : Gx) (X : Cx) (E : XK) (Γ : Cal) (c : C) (e : Expr) : Prop :=
  ∃ t, PT X e t ∧ ∀ r s A H S Q, ERel G A H r s → SRel G A H S → FinB G A H (evE Γ c r S) Q E → t s H Q
def SWb (G : Gx) (X : Cx) (E : XK) (Γ : Cal) (c : C) (e : Expr) : Prop :=
  ∃ t, PW X e t ∧ ∀ r s A H S Q, ERel G A H r s → SRel G A H S → FinB G A H (evE Γ c r S) Q E → t s H Q
theorem SWb.st {G : Gx} {X : Cx} {E : XK} {Γ : Cal} {c : C} {e : Expr} (h : SWb G X E Γ c e) : STb G X E Γ c e := let ⟨t, p, q⟩ := h; ⟨t, p.pt, q⟩
section
variable {G : Gx} {X : Cx} {E : XK} {Γ : Cal} {n : Nat} {a b c : C} {ea eb ec : Expr} {pos : Pos} {A A1 : List Addr} {H H1 : Hp} {S S1 : Store}

theorem FinB.toE {r : Res D} {Q : Bool → Hp → Prop} (h : FinB G A H r Q E) : FinE G A H r (fun v H' => ∃ k, v = .bl k ∧ Q k H') E := by
  unfold FinB at h
  cases r with
  | ok d S' =>
    cases d with
    | bl k => exact fun A' H' v e R p => by cases p; exact ⟨k, rfl, h A' H' k e R rfl⟩
    | _ => exact h.elim
  | exc c S' => exact h
  | bad => exact h
theorem FinB.here {k : Bool} {Q : Bool → Hp → Prop} (R : SRel G A H S) (h : FinB G A H (.ok (.bl k) S) Q E) : Q k H := h A H k .refl R rfl
theorem FinB.mono {r : Res D} {Q : Bool → Hp → Prop} (R : SRel G A H S) (R1 : SRel G A1 H1 S1) (x : Ext A H A1 H1) (h : FinB G A H r Q E) : FinB G A1 H1 r Q E := Fin.mono R R1 x h
/-- a test decides -/
theorem fin_tru {γ δ : Type} {P' : List Addr → Hp → γ → δ → Prop} {r : Res D} {f g : Store → Res γ} {Q : δ → Hp → Prop} {Q' : Bool → Hp → Prop} (R : SRel G A H S) (h : Fin P' G A H (r.bind fun x S => truD x S f g) Q E)
    (k : ∀ b S1 A1 H1, Ext A H A1 H1 → SRel G A1 H1 S1 → Fin P' G A1 H1 (if b = true then f S1 else g S1) Q E → Q' b H1) : FinB G A H r Q' E := by
  unfold FinB
  cases r with
  | ok d S' =>
    cases d with
    | bl t =>
      intro A' H' b e R' p
      cases p
      cases t with
      | true => exact k true S' A' H' e R' (Fin.mono R R' e h)
      | false => exact k false S' A' H' e R' (Fin.mono R R' e h)
    | _ => exact h.elim
  | exc c S' => exact h
  | bad => exact h
theorem finB_tru {r : Res D} {f g : Store → Res D} {Q Q' : Bool → Hp → Prop} (R : SRel G A H S) (h : FinB G A H (r.bind fun x S => truD x S f g) Q E)
    (k : ∀ b S1 A1 H1, Ext A H A1 H1 → SRel G A1 H1 S1 → FinB G A1 H1 (if b = true then f S1 else g S1) Q E → Q' b H1) : FinB G A H r Q' E := by
  refine fin_tru (P' := fun _ _ (b b' : Bool) => b = b') (f := fun S => asB (f S)) (g := fun S => asB (g S)) (Q := Q) R ?_ fun b S1 A1 H1 e R1 h1 => k b S1 A1 H1 e R1 ?_
  · unfold FinB at h
    cases r with
    | ok d S' =>
      cases d with
      | bl t => cases t <;> exact h
      | _ => exact h
    | exc c S' => exact h
    | bad => exact h
  · unfold FinB
    cases b <;> exact h1

/-- an expression whose value is a truth, as a test -/
theorem stb_val (h : SE G X E Γ c ec) (he : ∀ whole, isTrue ec X.env whole = (do let v ← whole; standAt ec.pos; holding [v] (truthy v))) : STb G X E Γ c ec := by
  obtain ⟨t, p, q⟩ := h
  exact ⟨_, pt_val p he, fun r s A H S Q er R h => q r s A H S _ er R h.toE⟩
theorem stb_cmp {op : CmpOp} {r : R2} (ho : OpR X (compareOp op) r) (hk : OpOk G r (cmpD op)) (hm : behindInMarks op eb = false) (ha : SE G X E Γ a ea) (hb : SE G X E Γ b eb) : STb G X E Γ (.cmp op a b) (.Compare ea [op] [eb] pos) := by
  obtain ⟨ta, pa, qa⟩ := ha
  obtain ⟨tb, pb, qb⟩ := hb
  refine ⟨_, pt_cmpR ho pa pb hm, fun r s A H S Q er R h => ?_⟩
  have h := h.toE
  simp only [evE] at h
  refine qa r s A H S _ er R (h.bind R fun x S1 A1 H1 v _ e1 R1 p1 h1 => ?_)
  refine qb r s A1 H1 S1 _ (er.ext R e1) R1 (h1.bind R1 fun y S2 A2 H2 u _ e2 R2 p2 h2 => ?_)
  exact hk A2 H2 S2 x y v u _ E R2 (p1.ext R1 e2) p2 h2
theorem lastMarks2 {op op' : CmpOp} {x y : Expr} (h : behindInMarks op' y = false) : lastMarks [op, op'] [x, y] = false := h
/-- a chain, as a reading -/
theorem chain_ok {op op' : CmpOp} {r r' : R2} {ta tb tc : TE} (hk : OpOk G r (cmpD op)) (hk' : OpOk G r' (cmpD op'))
    (qa : ∀ r s A H S Q, ERel G A H r s → SRel G A H S → FinE G A H (evE Γ a r S) Q E → ta s H Q) (qb : ∀ r s A H S Q, ERel G A H r s → SRel G A H S → FinE G A H (evE Γ b r S) Q E → tb s H Q)
    (qc : ∀ r s A H S Q, ERel G A H r s → SRel G A H S → FinE G A H (evE Γ c r S) Q E → tc s H Q) :
    ∀ ρ s A H S Q, ERel G A H ρ s → SRel G A H S → FinE G A H (evE Γ (.cmp2 op op' a b c) ρ S) Q E → tChain r r' ta tb tc s H Q := by
  intro ρ s A H S Q er R h
  simp only [evE] at h
  refine qa ρ s A H S _ er R (h.bind R fun x S1 A1 H1 v _ e1 R1 p1 h1 => ?_)
  have er1 := er.ext R e1
  refine qb ρ s A1 H1 S1 _ er1 R1 (h1.bind R1 fun y S2 A2 H2 u _ e2 R2 p2 h2 => ?_)
  have er2 := er1.ext R1 e2
  have h3 := (fin_tru R2 h2 (Q' := fun k H3 => if k = true then tc s H3 fun w' H4 => r' u w' H4 Q else Q (.bl false) H3) fun k S3 A3 H3 e3 R3 h3 => ?_).toE
  · exact hk A2 H2 S2 x y v u _ E R2 (p1.ext R1 e2) p2 h3
  · cases k with
    | true =>
      rw [if_pos rfl] at h3 ⊢
      refine qc ρ s A3 H3 S3 _ (er2.ext R2 e3) R3 (h3.bind R3 fun z S4 A4 H4 w _ e4 R4 p4 h4 => ?_)
      exact hk' A4 H4 S4 y z u w Q E R4 ((p2.ext R2 e3).ext R3 e4) p4 h4
    | false =>
      rw [if_neg Bool.false_ne_true] at h3 ⊢
      exact h3.here R3 (.bl false)
theorem se_chain {op op' : CmpOp} {r r' : R2} (ho : OpR X (compareOp op) r) (hk : OpOk G r (cmpD op)) (ho' : OpR X (compareOp op') r') (hk' : OpOk G r' (cmpD op')) (hm : behindInMarks op' ec = false)
    (ha : SE G X E Γ a ea) (hb : SE G X E Γ b eb) (hc : SE G X E Γ c ec) : SE G X E Γ (.cmp2 op op' a b c) (.Compare ea [op, op'] [eb, ec] pos) := by
  obtain ⟨ta, pa, qa⟩ := ha
  obtain ⟨tb, pb, qb⟩ := hb
  obtain ⟨tc, pc, qc⟩ := hc
  exact ⟨_, pe_chain ho ho' pa pb pc (lastMarks2 hm), chain_ok hk hk' qa qb qc⟩
theorem stb_chain {op op' : CmpOp} {r r' : R2} (ho : OpR X (compareOp op) r) (hk : OpOk G r (cmpD op)) (ho' : OpR X (compareOp op') r') (hk' : OpOk G r' (cmpD op')) (hm : behindInMarks op' ec = false)
    (ha : SE G X E Γ a ea) (hb : SE G X E Γ b eb) (hc : SE G X E Γ c ec) : STb G X E Γ (.cmp2 op op' a b c) (.Compare ea [op, op'] [eb, ec] pos) := by
  obtain ⟨ta, pa, qa⟩ := ha
  obtain ⟨tb, pb, qb⟩ := hb
  obtain ⟨tc, pc, qc⟩ := hc
  exact ⟨_, pt_chain ho ho' pa pb pc (lastMarks2 hm), fun ρ s A H S Q er R h => chain_ok hk hk' qa qb qc ρ s A H S _ er R h.toE⟩

/-! ### and, or, not, if -/
theorem se_one {op : BoolOp} (h : SE G X E Γ a ea) : SE G X E Γ a (.BoolOp op [ea] pos) := let ⟨t, p, q⟩ := h; ⟨t, pe_one p, q⟩
theorem swb_and1 (h : STb G X E Γ a ea) : SWb G X E Γ a (.BoolOp .And [ea] pos) := let ⟨t, p, q⟩ := h; ⟨t, pw_and1 p, q⟩
theorem swb_or1 (h : STb G X E Γ a ea) : SWb G X E Γ a (.BoolOp .Or [ea] pos) := let ⟨t, p, q⟩ := h; ⟨t, pw_or1 p, q⟩
theorem se_and {rest : List Expr} (ha : SE G X E Γ a ea) (hb : SE G X E Γ b (.BoolOp .And (eb :: rest) pos)) : SE G X E Γ (.and a b) (.BoolOp .And (ea :: eb :: rest) pos) := by
  obtain ⟨ta, pa, qa⟩ := ha
  obtain ⟨tb, pb, qb⟩ := hb
  refine ⟨_, pe_and pa pb, fun r s A H S Q er R h => ?_⟩
  simp only [evE] at h
  refine qa r s A H S _ er R (fin_tru R h fun k S1 A1 H1 e1 R1 h1 => ?_).toE
  cases k with
  | true => rw [if_pos rfl] at h1 ⊢; exact qb r s A1 H1 S1 _ (er.ext R e1) R1 h1
  | false => rw [if_neg Bool.false_ne_true] at h1 ⊢; exact h1.here R1 (.bl false)
theorem se_or {rest : List Expr} (ha : SE G X E Γ a ea) (hb : SE G X E Γ b (.BoolOp .Or (eb :: rest) pos)) : SE G X E Γ (.or a b) (.BoolOp .Or (ea :: eb :: rest) pos) := by
  obtain ⟨ta, pa, qa⟩ := ha
  obtain ⟨tb, pb, qb⟩ := hb
  refine ⟨_, pe_or pa pb, fun r s A H S Q er R h => ?_⟩
  simp only [evE] at h
  refine qa r s A H S _ er R (fin_tru R h fun k S1 A1 H1 e1 R1 h1 => ?_).toE
  cases k with
  | true => rw [if_pos rfl] at h1 ⊢; exact h1.here R1 (.bl true)
  | false => rw [if_neg Bool.false_ne_true] at h1 ⊢; exact qb r s A1 H1 S1 _ (er.ext R e1) R1 h1
theorem swb_and {rest : List Expr} (ha : STb G X E Γ a ea) (hb : SWb G X E Γ b (.BoolOp .And (eb :: rest) pos)) : SWb G X E Γ (.and a b) (.BoolOp .And (ea :: eb :: rest) pos) := by
  obtain ⟨ta, pa, qa⟩ := ha
  obtain ⟨tb, pb, qb⟩ := hb
  refine ⟨_, pw_and pa pb, fun r s A H S Q er R h => ?_⟩
  simp only [evE] at h
  refine qa r s A H S _ er R (finB_tru R h fun k S1 A1 H1 e1 R1 h1 => ?_)
  cases k with
  | true => rw [if_pos rfl] at h1 ⊢; exact qb r s A1 H1 S1 _ (er.ext R e1) R1 h1
  | false => rw [if_neg Bool.false_ne_true] at h1 ⊢; exact h1.here R1
theorem swb_or {rest : List Expr} (ha : STb G X E Γ a ea) (hb : SWb G X E Γ b (.BoolOp .Or (eb :: rest) pos)) : SWb G X E Γ (.or a b) (.BoolOp .Or (ea :: eb :: rest) pos) := by
  obtain ⟨ta, pa, qa⟩ := ha
  obtain ⟨tb, pb, qb⟩ := hb
  refine ⟨_, pw_or pa pb, fun r s A H S Q er R h => ?_⟩
  simp only [evE] at h
  refine qa r s A H S _ er R (finB_tru R h fun k S1 A1 H1 e1 R1 h1 => ?_)
  cases k with
  | true => rw [if_pos rfl] at h1 ⊢; exact h1.here R1
  | false => rw [if_neg Bool.false_ne_true] at h1 ⊢; exact qb r s A1 H1 S1 _ (er.ext R e1) R1 h1
theorem not_fin {r : Res D} {Q : VK} (R : SRel G A H S) (h : FinE G A H (r.bind fun x S => match x with | .bl b => .ok (.bl (!b)) S | _ => .bad) Q E) : FinB G A H r (fun k H1 => Q (.bl (!k)) H1) E := by
  unfold FinB
  cases r with
  | ok d S' =>
    cases d with
    | bl t => exact fun A' H' b e R' p => by cases p; exact h A' H' _ e R' (.bl _)
    | _ => exact h.elim
  | exc c S' => exact h
  | bad => exact h
theorem se_not (ha : SE G X E Γ a ea) : SE G X E Γ (.not a) (.UnaryOp .Not ea pos) := by
  obtain ⟨ta, pa, qa⟩ := ha
  refine ⟨_, pe_not pa, fun r s A H S Q er R h => ?_⟩
  simp only [evE] at h
  exact qa r s A H S _ er R (not_fin R h).toE
theorem stb_not (ha : STb G X E Γ a ea) : STb G X E Γ (.not a) (.UnaryOp .Not ea pos) := by
  obtain ⟨ta, pa, qa⟩ := ha
  refine ⟨_, pt_not pa, fun r s A H S Q er R h => ?_⟩
  have h := h.toE
  simp only [evE] at h
  have h2 := not_fin R h
  refine qa r s A H S _ er R ?_
  unfold FinB at h2 ⊢
  cases q : asB (evE Γ a r S) with
  | ok d S' =>
    rw [q] at h2
    intro A' H' b e R' p
    obtain ⟨k, e1, e2⟩ := h2 A' H' b e R' p
    cases e1
    exact e2
  | exc c S' => rw [q] at h2; exact h2
  | bad => rw [q] at h2; exact h2
theorem se_neg (ha : SE G X E Γ a ea) : SE G X E Γ (.neg a) (.UnaryOp .USub ea pos) := by
  obtain ⟨ta, pa, qa⟩ := ha
  refine ⟨_, pe_un un_neg pa, fun r s A H S Q er R h => ?_⟩
  simp only [evE] at h
  refine qa r s A H S _ er R (h.bind R fun x S1 A1 H1 v _ e1 R1 p1 h1 => ?_)
  cases x with
  | int i => rw [rep_int p1]; exact ⟨i, rfl, h1.here R1 (.int _)⟩
  | _ => exact h1.elim
theorem se_ite {t : C} {et : Expr} (ht : STb G X E Γ t et) (ha : SE G X E Γ a ea) (hb : SE G X E Γ b eb) : SE G X E Γ (.ite t a b) (.IfExp et ea eb pos) := by
  obtain ⟨tt, pt, qt⟩ := ht
  obtain ⟨ta, pa, qa⟩ := ha
  obtain ⟨tb, pb, qb⟩ := hb
  refine ⟨_, pe_ifExp pt pa pb, fun r s A H S Q er R h => ?_⟩
  simp only [evE] at h
  refine qt r s A H S _ er R (fin_tru R h fun k S1 A1 H1 e1 R1 h1 => ?_)
  cases k with
  | true => rw [if_pos rfl] at h1 ⊢; exact qa r s A1 H1 S1 _ (er.ext R e1) R1 h1
  | false => rw [if_neg Bool.false_ne_true] at h1 ⊢; exact qb r s A1 H1 S1 _ (er.ext R e1) R1 h1

/-! ### arguments, displays -/
theorem sa_nil : SA G X E Γ .nil [] := ⟨_, pa_nil, fun r s A H S Q er R h => by simp only [evA] at h; exact h.here R .nil⟩
theorem sa_cons {as : C} {es : List Expr} (ha : SE G X E Γ a ea) (hs : SA G X E Γ as es) (hp : starEach (ea :: es) X.env = (false, eval ea X.env) :: starEach es X.env) : SA G X E Γ (.cons a as) (ea :: es) := by
  obtain ⟨ta, pa, qa⟩ := ha
  obtain ⟨ts, ps, qs⟩ := hs
  refine ⟨_, pa_cons pa ps hp, fun r s A H S Q er R h => ?_⟩
  simp only [evA] at h
  refine qa r s A H S _ er R (h.bind R fun x S1 A1 H1 v _ e1 R1 p1 h1 => ?_)
  refine qs r s A1 H1 S1 _ (er.ext R e1) R1 (h1.bind R1 fun y S2 A2 H2 u _ e2 R2 p2 h2 => ?_)
  exact h2.here R2 (.cons (p1.ext R1 e2) p2)
def C.len : C → Nat
  | .cons _ as => as.len + 1
  | _ => 0
theorem evA_len : ∀ (as : C) (r : Env) (S : Store) (ds : List D) (S' : Store), evA Γ as r S = .ok ds S' → ds.length = as.len := by
  intro as
  induction as with
  | nil => intro r S ds S' h; simp only [evA] at h; cases h; rfl
  | cons a as iha ih =>
    intro r S ds S' h
    simp only [evA] at h
    cases q : evE Γ a r S with
    | ok x S1 =>
      rw [q] at h
      dsimp only [Res.bind] at h
      cases q2 : evA Γ as r S1 with
      | ok xs S2 =>
        rw [q2] at h
        cases h
        simp [C.len, ih r S1 xs _ q2]
      | exc c S2 => rw [q2] at h; cases h
      | bad => rw [q2] at h; cases h
    | exc c S1 => rw [q] at h; cases h
    | bad => rw [q] at h; cases h
  | _ => intro r S ds S' h; simp only [evA] at h; cases h
theorem se_tup {as : C} {es : List Expr} {k : Nat} (hs : SA G X E Γ as es) (hl : as.len ≤ 1000) : SE G X E Γ (.tup as) (.Tuple es k pos) := by
  obtain ⟨ts, ps, qs⟩ := hs
  refine ⟨_, pe_tup ps, fun r s A H S Q er R h => ?_⟩
  simp only [evE] at h
  refine qs r s A H S _ er R (h.bind R fun ds S1 A1 H1 vs e0 e1 R1 p1 h1 => ⟨?_, fun p hp => fin_tup R1 h1 p1 p hp⟩)
  rw [← p1.length, evA_len _ _ _ _ _ e0, sizeLine_eq]
  omega
theorem se_lst {as : C} {es : List Expr} (hs : SA G X E Γ as es) (hl : as.len ≤ 1000) : SE G X E Γ (.lst as) (.List es pos) := by
  obtain ⟨ts, ps, qs⟩ := hs
  refine ⟨_, pe_lst ps, fun r s A H S Q er R h => ?_⟩
  simp only [evE] at h
  refine qs r s A H S _ er R (h.bind R fun ds S1 A1 H1 vs e0 e1 R1 p1 h1 => ⟨?_, fun p hp => fin_lst R1 h1 p1 p hp⟩)
  rw [← p1.length, evA_len _ _ _ _ _ e0, sizeLine_eq]
  omega

/-! ### places, slices -/
theorem se_idx {r : R2} (hi : IxR X r) (hk : OpOk G r idxD) (hs : PlainIx eb) (ha : SE G X E Γ a ea) (hb : SE G X E Γ b eb) : SE G X E Γ (.idx a b) (.Subscript ea eb pos) := by
  obtain ⟨ta, pa, qa⟩ := ha
  obtain ⟨tb, pb, qb⟩ := hb
  refine ⟨_, pe_ix hi pa pb hs, fun r s A H S Q er R h => ?_⟩
  simp only [evE] at h
  refine qa r s A H S _ er R (h.bind R fun x S1 A1 H1 v _ e1 R1 p1 h1 => ?_)
  refine qb r s A1 H1 S1 _ (er.ext R e1) R1 (h1.bind R1 fun y S2 A2 H2 u _ e2 R2 p2 h2 => ?_)
  exact hk A2 H2 S2 x y v u Q E R2 (p1.ext R1 e2) p2 h2
/-- a bound -/
def SB (G : Gx) (X : Cx) (E : XK) (Γ : Cal) (c : C) (o : Option Expr) : Prop :=
  ∃ t, PO X o t ∧ ∀ r s A H S Q, ERel G A H r s → SRel G A H S → Fin (fun _ _ (b b' : Option Int) => b = b') G A H (evB c.isNo (evE Γ c r) S) Q E → t s H Q
theorem sb_none : SB G X E Γ .no none := ⟨_, po_none, fun r s A H S Q er R h => h A H none .refl R rfl⟩
theorem sb_some (hn : a.isNo = false) (ha : SE G X E Γ a ea) : SB G X E Γ a (some ea) := by
  obtain ⟨ta, pa, qa⟩ := ha
  refine ⟨_, po_some pa, fun r s A H S Q er R h => ?_⟩
  unfold evB at h
  rw [hn, if_neg Bool.false_ne_true] at h
  refine qa r s A H S _ er R (h.bind R fun x S1 A1 H1 v _ e1 R1 p1 h1 => ?_)
  cases x with
  | int i => rw [rep_int p1]; exact ⟨i, rfl, h1 A1 H1 _ .refl R1 rfl⟩
  | _ => exact h1.elim
theorem se_slc {r : V → Option Int → Option Int → Hp → VK → Prop} {lo hi : C} {el eh : Option Expr} {p2 : Pos} (hr : SlR X r) (hk : SlOk G r) (ha : SE G X E Γ a ea) (hl : SB G X E Γ lo el) (hh : SB G X E Γ hi eh) :
    SE G X E Γ (.slc a lo hi) (.Subscript ea (.Slice el eh none p2) pos) := by
  obtain ⟨ta, pa, qa⟩ := ha
  obtain ⟨tl, pl, ql⟩ := hl
  obtain ⟨th, ph, qh⟩ := hh
  refine ⟨_, pe_slice hr pa pl ph, fun r s A H S Q er R h => ?_⟩
  simp only [evE] at h
  refine qa r s A H S _ er R (h.bind R fun x S1 A1 H1 v _ e1 R1 p1 h1 => ?_)
  have er1 := er.ext R e1
  refine ql r s A1 H1 S1 _ er1 R1 (h1.bind R1 fun l S2 A2 H2 l' _ e2 R2 p2 h2 => ?_)
  subst p2
  refine qh r s A2 H2 S2 _ (er1.ext R1 e2) R2 (h2.bind R2 fun u S3 A3 H3 u' _ e3 R3 p3 h3 => ?_)
  subst p3
  exact hk A3 H3 S3 x v l u Q E R3 ((p1.ext R1 e2).ext R2 e3) h3
theorem se_rev {k : Nat} {p1 p2 p3 : Pos} (xo : Xok G X n) (ha : SE G X E Γ a ea) : SE G X E Γ (.rev a) (.Subscript ea (.Slice none none (some (.UnaryOp .USub (.Constant (.int 1) k p1) p2)) p3) pos) := by
  obtain ⟨ta, pa, qa⟩ := ha
  refine ⟨_, pe_revL pa, fun r s A H S Q er R h => ?_⟩
  simp only [evE] at h
  refine qa r s A H S _ er R (h.bind R fun x S1 A1 H1 v _ e1 R1 p1 h1 => ?_)
  unfold revD at h1
  split at h1
  · rename_i xs q
    obtain ⟨a, vs, rfl, h2, h3⟩ := lstOf_rep R1 p1 q
    exact ⟨a, vs, rfl, by rw [xo.K]; exact h2, fun p hp => fin_lst R1 h1 h3.reverse p hp⟩
  · exact h1.elim

/-! ### calls -/
theorem star_plain {es : List Expr} {env : PySem.Env} {pos : Pos} (h : ∀ e ∈ es, ∀ (r : List Expr), starEach (e :: r) env = (false, eval e env) :: starEach r env) : (backTo pos (starEach es env)).any (·.1) = false := by
  induction es with
  | nil => rfl
  | cons e es ih =>
    rw [h e List.mem_cons_self es]
    show (false || (backTo pos (starEach es env)).any (·.1)) = false
    rw [ih fun e' he => h e' (List.mem_cons_of_mem _ he)]
    rfl
theorem se_bltB {f : Bf} {id : String} {x : Str} {p : Pos} {as : C} {e : Expr} {es : List Expr} {r : List V → Hp → VK → Prop} (hc : CallR X (.builtin id) r) (hk : CallOk G r (bltD f)) (hg : Gl X x) (hm : X.mg x = none) (hv : bootBuiltins x = some (.builtin id))
    (hn : x ≠ "__name__") (hd : (x == ("__debug__" : Str)) = false) (hs : SA G X E Γ as (e :: es)) (he : starEach (e :: es) X.env = (false, eval e X.env) :: starEach es X.env) (hpl : (backTo pos (starEach es X.env)).any (·.1) = false) :
    SE G X E Γ (.blt f as) (.Call (.Name x p) (e :: es) [] pos) := by
  obtain ⟨ts, ps, qs⟩ := hs
  refine ⟨_, pe_callB hc hg hm hv ps hn hd he hpl, fun r s A H S Q er R h => ?_⟩
  simp only [evE] at h
  exact qs r s A H S _ er R (h.bind R fun ds S1 A1 H1 vs _ e1 R1 p1 h1 => hk A1 H1 S1 ds vs Q E R1 p1 h1)
theorem se_bltT {f : Bf} {T : String} {x : Str} {p : Pos} {as : C} {e : Expr} {es : List Expr} {r : List V → Hp → VK → Prop} (hc : CallR X (.type T) r) (hk : CallOk G r (bltD f)) (hg : Gl X x) (hm : X.mg x = none) (hv : bootBuiltins x = some (.type T))
    (hn : x ≠ "__name__") (hd : (x == ("__debug__" : Str)) = false) (hs : SA G X E Γ as (e :: es)) (he : starEach (e :: es) X.env = (false, eval e X.env) :: starEach es X.env) (hpl : (backTo pos (starEach es X.env)).any (·.1) = false) :
    SE G X E Γ (.blt f as) (.Call (.Name x p) (e :: es) [] pos) := by
  obtain ⟨ts, ps, qs⟩ := hs
  refine ⟨_, pe_callTy hc hg hm hv ps hn hd he hpl, fun r s A H S Q er R h => ?_⟩
  simp only [evE] at h
  exact qs r s A H S _ er R (h.bind R fun ds S1 A1 H1 vs _ e1 R1 p1 h1 => hk A1 H1 S1 ds vs Q E R1 p1 h1)
/-- what a def of the program promises: what the code tells -/
def spF (G : Gx) (Γ : Cal) (f : Nat) (m : Nat) : Sp := fun vs H Q E => vs.length = m ∧ ∃ A S ds, SRel G A H S ∧ RepL G A H ds vs ∧ FinE G A H (Γ.call f ds S) Q E
end
end MP

namespace MP
open PySem L2
section
variable {G : Gx} {X : Cx} {E : XK} {Γ : Cal} {n : Nat} {A A1 A' : List Addr} {H H1 H' : Hp} {S S1 S' : Store}

/-- what a walk yields, whatever is done meanwhile -/
def JRep (G : Gx) (A : List Addr) (H : Hp) (src : Src) (J : L2.It) : Prop :=
  ∀ (i : Nat) (A' : List Addr) (H' : Hp) (S' : Store), Ext A H A' H' → SRel G A' H' S' →
    (src.at i S' = some none → J.stop i H') ∧
    ∀ x, src.at i S' = some (some x) → J.go i H' ∧ ∀ v H'', J.yld i H' v H'' → Ext A' H' A' H'' ∧ SRel G A' H'' S' ∧ Rep G A' H'' x v

theorem conOf_some {o : Option O} {xs : List D} (h : conOf o = some xs) : o = some (.lst xs) := by
  unfold conOf at h
  split at h
  · cases h; rfl
  · cases h
theorem none_le {α : Type} {xs : List α} {i : Nat} (h : xs[i]? = none) : xs.length ≤ i := List.getElem?_eq_none_iff.mp h
theorem jrep_lst {m : Nat} {a : Addr} (h : A[m]? = some a) : JRep G A H (.lst m) (Itl G.K a) := by
  intro i A' H' S' e R
  have ha := e.ix h
  constructor
  · intro q
    simp only [Src.at, Option.map_eq_some_iff] at q
    obtain ⟨xs, q1, q2⟩ := q
    obtain ⟨vs, h2, h3⟩ := R.obj m _ a (conOf_some q1) ha
    exact ⟨vs, .of h2, none_le (h3.none_of q2)⟩
  · intro x q
    simp only [Src.at, Option.map_eq_some_iff] at q
    obtain ⟨xs, q1, q2⟩ := q
    obtain ⟨vs, h2, h3⟩ := R.obj m _ a (conOf_some q1) ha
    obtain ⟨v, e1, e2⟩ := h3.get q2
    refine ⟨⟨vs, v, .of h2, e1⟩, fun u H'' y => ?_⟩
    obtain ⟨rfl, y⟩ := y
    have := y vs (.of h2)
    rw [e1] at this
    cases this
    exact ⟨.refl, R, e2⟩
theorem ConAt.ext {a : Addr} {vs : List V} (R : SRel G A H S) (e : Ext A H A' H') (h : ConAt G.K H a vs) : ConAt G.K H' a vs := by
  rcases h with ⟨ob, h⟩ | h
  · exact .inl ⟨ob, e.keep _ _ h (R.not_frz h)⟩
  · exact .inr h
theorem jrep_con {a : Addr} {xs : List D} {vs : List V} (R0 : SRel G A H S) (hc : ConAt G.K H a vs) (hr : RepL G A H xs vs) : JRep G A H (.fix xs) (Itl G.K a) := by
  intro i A' H' S' e R
  have h2 := (hc.ext R0 e).sq
  have h3 := hr.ext R0 e
  constructor
  · intro q
    simp only [Src.at, Option.some.injEq] at q
    exact ⟨vs, h2, none_le (h3.none_of q)⟩
  · intro x q
    simp only [Src.at, Option.some.injEq] at q
    obtain ⟨v, e1, e2⟩ := h3.get q
    refine ⟨⟨vs, v, h2, e1⟩, fun u H'' y => ?_⟩
    obtain ⟨rfl, y⟩ := y
    have := y vs h2
    rw [e1] at this
    cases this
    exact ⟨.refl, R, e2⟩
theorem jrep_tup {a : Addr} {xs : List D} {vs : List V} (R0 : SRel G A H S) (hc : H a = some (.tup vs)) (hr : RepL G A H xs vs) : JRep G A H (.fix xs) (Itt G.K a) := by
  intro i A' H' S' e R
  have h2 : SqT G.K H' a vs := .of (e.keep _ _ hc (R0.not_tup hc))
  have h3 := hr.ext R0 e
  constructor
  · intro q
    simp only [Src.at, Option.some.injEq] at q
    exact ⟨vs, h2, none_le (h3.none_of q)⟩
  · intro x q
    simp only [Src.at, Option.some.injEq] at q
    obtain ⟨v, e1, e2⟩ := h3.get q
    refine ⟨⟨vs, v, h2, e1⟩, fun u H'' y => ?_⟩
    obtain ⟨rfl, y⟩ := y
    have := y vs h2
    rw [e1] at this
    cases this
    exact ⟨.refl, R, e2⟩
theorem jrep_rng (lo : Int) (m : Nat) : JRep G A H (.rng lo m) (Itr lo m) := by
  intro i A' H' S' e R
  constructor
  · intro q
    simp only [Src.at, Option.some.injEq] at q
    split at q
    · cases q
    · show m ≤ i
      omega
  · intro x q
    simp only [Src.at, Option.some.injEq] at q
    split at q
    · rename_i hi
      cases q
      refine ⟨hi, fun u H'' y => ?_⟩
      obtain ⟨rfl, rfl⟩ := y
      exact ⟨.refl, R, .int _⟩
    · cases q
theorem jrep_enu {m : Nat} {a : Addr} (h : A[m]? = some a) : JRep G A H (.enu m) (Ite G.K a) := by
  intro i A' H' S' e R
  have ha := e.ix h
  constructor
  · intro q
    simp only [Src.at, Option.map_eq_some_iff] at q
    obtain ⟨xs, q1, q2⟩ := q
    obtain ⟨vs, h2, h3⟩ := R.obj m _ a (conOf_some q1) ha
    simp only [Option.map_eq_none_iff] at q2
    exact ⟨vs, .of h2, none_le (h3.none_of q2)⟩
  · intro x q
    simp only [Src.at, Option.map_eq_some_iff] at q
    obtain ⟨xs, q1, q2⟩ := q
    obtain ⟨vs, h2, h3⟩ := R.obj m _ a (conOf_some q1) ha
    obtain ⟨y, q3, rfl⟩ := q2
    obtain ⟨v, e1, e2⟩ := h3.get q3
    refine ⟨⟨vs, v, .of h2, e1⟩, fun u H'' z => ?_⟩
    obtain ⟨T, w, rfl, hT, rfl, z⟩ := z
    have := z vs (.of h2)
    rw [e1] at this
    cases this
    exact ⟨ext_laid hT, R.laid hT, .tup upd_same (.cons (.int _) (.cons (e2.ext R (ext_laid hT)) .nil))⟩
theorem jrep_zip {m k : Nat} {a b : Addr} (h : A[m]? = some a) (h' : A[k]? = some b) : JRep G A H (.zip m k) (Itz G.K a b) := by
  intro i A' H' S' e R
  have ha := e.ix h
  have hb := e.ix h'
  constructor
  · intro q
    simp only [Src.at, Option.bind_eq_some_iff, Option.map_eq_some_iff] at q
    obtain ⟨xs, q1, ys, q2, q3⟩ := q
    obtain ⟨vs, h2, h3⟩ := R.obj m _ a (conOf_some q1) ha
    obtain ⟨ws, h4, h5⟩ := R.obj k _ b (conOf_some q2) hb
    refine ⟨vs, ws, .of h2, .of h4, ?_⟩
    cases q4 : xs[i]? with
    | none => exact .inl (none_le (h3.none_of q4))
    | some x =>
      rw [q4] at q3
      simp only [Option.bind_some, Option.map_eq_none_iff] at q3
      exact .inr (none_le (h5.none_of q3))
  · intro x q
    simp only [Src.at, Option.bind_eq_some_iff, Option.map_eq_some_iff] at q
    obtain ⟨xs, q1, ys, q2, q3⟩ := q
    obtain ⟨vs, h2, h3⟩ := R.obj m _ a (conOf_some q1) ha
    obtain ⟨ws, h4, h5⟩ := R.obj k _ b (conOf_some q2) hb
    obtain ⟨y, q4, z, q5, rfl⟩ := q3
    obtain ⟨v, e1, e2⟩ := h3.get q4
    obtain ⟨w, e3, e4⟩ := h5.get q5
    refine ⟨⟨vs, ws, v, w, .of h2, .of h4, e1, e3⟩, fun u H'' z => ?_⟩
    obtain ⟨T, v', w', rfl, hT, rfl, z1, z2⟩ := z
    have z1 := z1 vs (.of h2)
    have z2 := z2 ws (.of h4)
    rw [e1] at z1
    rw [e3] at z2
    cases z1
    cases z2
    exact ⟨ext_laid hT, R.laid hT, .tup upd_same (.cons (e2.ext R (ext_laid hT)) (.cons (e4.ext R (ext_laid hT)) .nil))⟩
theorem zipW_get {xs ys : List D} {i : Nat} : (List.zipWith (fun x y => D.tup [x, y]) xs ys)[i]? = xs[i]?.bind fun x => ys[i]?.map fun y => D.tup [x, y] := by
  rw [List.getElem?_zipWith]
  cases xs[i]? <;> cases ys[i]? <;> rfl
theorem jrep_zipT {a b : Addr} {xs ys : List D} {vs ws : List V} (R0 : SRel G A H S) (hc : H a = some (.tup vs)) (hr : RepL G A H xs vs) (hc' : H b = some (.tup ws)) (hr' : RepL G A H ys ws) :
    JRep G A H (.fix (List.zipWith (fun x y => D.tup [x, y]) xs ys)) (RZ.ItzT G.K a b) := by
  intro i A' H' S' e R
  have h2 : SqT G.K H' a vs := .of (e.keep _ _ hc (R0.not_tup hc))
  have h3 := hr.ext R0 e
  have h4 : SqT G.K H' b ws := .of (e.keep _ _ hc' (R0.not_tup hc'))
  have h5 := hr'.ext R0 e
  constructor
  · intro q
    simp only [Src.at, Option.some.injEq, zipW_get] at q
    refine ⟨vs, ws, h2, h4, ?_⟩
    cases q4 : xs[i]? with
    | none => exact .inl (none_le (h3.none_of q4))
    | some x =>
      rw [q4] at q
      simp only [Option.bind_some, Option.map_eq_none_iff] at q
      exact .inr (none_le (h5.none_of q))
  · intro x q
    simp only [Src.at, Option.some.injEq, zipW_get, Option.bind_eq_some_iff, Option.map_eq_some_iff] at q
    obtain ⟨y, q4, z, q5, rfl⟩ := q
    obtain ⟨v, e1, e2⟩ := h3.get q4
    obtain ⟨w, e3, e4⟩ := h5.get q5
    refine ⟨⟨vs, ws, v, w, h2, h4, e1, e3⟩, fun u H'' z => ?_⟩
    obtain ⟨T, v', w', rfl, hT, rfl, z1, z2⟩ := z
    have z1 := z1 vs h2
    have z2 := z2 ws h4
    rw [e1] at z1
    rw [e3] at z2
    cases z1
    cases z2
    exact ⟨ext_laid hT, R.laid hT, .tup upd_same (.cons (e2.ext R (ext_laid hT)) (.cons (e4.ext R (ext_laid hT)) .nil))⟩

/-- what a walk walks -/
def evI (Γ : Cal) (it : It) (x : C) (r : Env) (S : Store) : Res Src :=
  (evA Γ x r S).bind fun ds S => match srcOf it ds S with
    | some src => .ok src S
    | none => .bad
def SI (G : Gx) (X : Cx) (E : XK) (Γ : Cal) (it : It) (x : C) (tg iter : Expr) : Prop :=
  ∃ wi, PI X tg iter wi ∧ ∀ r s A H S (Q : L2.It → Hp → Prop), ERel G A H r s → SRel G A H S → Fin (fun A H src J => JRep G A H src J) G A H (evI Γ it x r S) Q E → wi s H Q
theorem pi_or {tg iter : Expr} {w1 w2 : TI} (h1 : PI X tg iter w1) (h2 : PI X tg iter w2) : PI X tg iter (fun σ H R => w1 σ H R ∨ w2 σ H R) :=
  ⟨fun pins s σ H R I h => h.elim (fun h => h1.run pins s σ H R I h) fun h => h2.run pins s σ H R I h⟩
theorem si_seq {a : C} {ea tg : Expr} (xo : Xok G X n) (ha : SE G X E Γ a ea) : SI G X E Γ .seq (.cons a .nil) tg ea := by
  obtain ⟨ta, pa, qa⟩ := ha
  refine ⟨_, pi_or (pi_list pa) (pi_tup pa), fun r s A H S Q er R h => ?_⟩
  simp only [evI, evA] at h
  rw [xo.K]
  cases q : evE Γ a r S with
  | exc c S1 => rw [q] at h; exact .inl (qa r s A H S _ er R (by rw [q]; exact h))
  | bad => rw [q] at h; exact h.elim
  | ok d S1 =>
    rw [q] at h
    dsimp only [Res.bind] at h
    cases d with
    | tup xs =>
      refine .inr (qa r s A H S _ er R ?_)
      rw [q]
      intro A1 H1 v e1 R1 p1
      obtain ⟨b, vs, rfl, h1, h2⟩ := rep_tup p1
      exact ⟨b, rfl, ⟨vs, .of h1⟩, h A1 H1 _ e1 R1 (jrep_tup R1 h1 h2)⟩
    | con xs =>
      refine .inl (qa r s A H S _ er R ?_)
      rw [q]
      intro A1 H1 v e1 R1 p1
      cases p1 with
      | con h1 h2 => exact ⟨_, rfl, ⟨_, h1.sq⟩, h A1 H1 _ e1 R1 (jrep_con R1 h1 h2)⟩
    | ref m =>
      simp only [srcOf, srcSeq] at h
      cases q2 : conOf S1[m]? with
      | none => rw [q2] at h; exact h.elim
      | some xs =>
        rw [q2] at h
        refine .inl (qa r s A H S _ er R ?_)
        rw [q]
        intro A1 H1 v e1 R1 p1
        obtain ⟨b, vs, rfl, h0, h1, h2⟩ := rep_lst R1 p1 (conOf_some q2)
        exact ⟨b, rfl, ⟨vs, .of h1⟩, h A1 H1 _ e1 R1 (jrep_lst h0)⟩
    | _ => exact h.elim
theorem big_eq : big = 2 ^ 62 := by decide
theorem len1 {a : C} {r : Env} {S S1 : Store} {ds : List D} (h : evA Γ (.cons a .nil) r S = .ok ds S1) : ∃ d, ds = [d] := by
  have := evA_len _ _ _ _ _ h
  match ds, this with
  | [d], _ => exact ⟨d, rfl⟩
theorem len2 {a b : C} {r : Env} {S S1 : Store} {ds : List D} (h : evA Γ (.cons a (.cons b .nil)) r S = .ok ds S1) : ∃ d e, ds = [d, e] := by
  have := evA_len _ _ _ _ _ h
  match ds, this with
  | [d, e], _ => exact ⟨d, e, rfl⟩
theorem si_rng1 {a : C} {ea tg : Expr} {p pos : Pos} (hg : Gl X "range") (hm : X.mg "range" = none) (hs : starEach [ea] X.env = [(false, eval ea X.env)]) (ha : SA G X E Γ (.cons a .nil) [ea]) : SI G X E Γ .rng (.cons a .nil) tg (.Call (.Name "range" p) [ea] [] pos) := by
  obtain ⟨ta, pa, qa⟩ := ha
  refine ⟨_, pi_range1 hg hm pa hs, fun r s A H S Q er R h => ?_⟩
  unfold evI at h
  refine qa r s A H S _ er R (h.bind R fun ds S1 A1 H1 vs e0 e1 R1 p1 h1 => ?_)
  obtain ⟨d, rfl⟩ := len1 e0
  obtain ⟨v, rfl, hv⟩ := repL1 p1
  simp only [srcOf, srcRng1] at h1
  cases d <;> try exact h1.elim
  rename_i j
  dsimp only at h1
  by_cases hj : -big ≤ j ∧ j < big
  · rw [if_pos hj] at h1
    rw [rep_int hv]
    rw [big_eq] at hj
    exact ⟨j, rfl, hj.1, hj.2, h1 A1 H1 _ .refl R1 (jrep_rng 0 _)⟩
  · rw [if_neg hj] at h1
    exact h1.elim
theorem si_rng2 {a b : C} {ea eb tg : Expr} {p pos : Pos} (hg : Gl X "range") (hm : X.mg "range" = none) (hs : starEach [ea, eb] X.env = [(false, eval ea X.env), (false, eval eb X.env)]) (hs2 : starEach [eb] X.env = [(false, eval eb X.env)])
    (ha : SA G X E Γ (.cons a (.cons b .nil)) [ea, eb]) : SI G X E Γ .rng (.cons a (.cons b .nil)) tg (.Call (.Name "range" p) [ea, eb] [] pos) := by
  obtain ⟨ta, pa, qa⟩ := ha
  refine ⟨_, pi_range2 hg hm pa hs hs2, fun r s A H S Q er R h => ?_⟩
  unfold evI at h
  refine qa r s A H S _ er R (h.bind R fun ds S1 A1 H1 vs e0 e1 R1 p1 h1 => ?_)
  obtain ⟨d, d', rfl⟩ := len2 e0
  obtain ⟨v, w, rfl, hv, hw⟩ := repL2 p1
  simp only [srcOf, srcRng2] at h1
  cases d <;> try exact h1.elim
  cases d' <;> try exact h1.elim
  rename_i i j
  dsimp only at h1
  by_cases hj : -big ≤ i ∧ i < big ∧ -big ≤ j ∧ j < big
  · rw [if_pos hj] at h1
    rw [rep_int hv, rep_int hw]
    rw [big_eq] at hj
    exact ⟨i, j, rfl, hj, h1 A1 H1 _ .refl R1 (jrep_rng i _)⟩
  · rw [if_neg hj] at h1
    exact h1.elim
theorem si_enu {a : C} {ea : Expr} {elts : List Expr} {kk : Nat} {tpos p pos : Pos} (xo : Xok G X n) (hg : Gl X "enumerate") (hm : X.mg "enumerate" = none) (hs : starEach [ea] X.env = [(false, eval ea X.env)]) (ha : SA G X E Γ (.cons a .nil) [ea]) :
    SI G X E Γ .enu (.cons a .nil) (.Tuple elts kk tpos) (.Call (.Name "enumerate" p) [ea] [] pos) := by
  obtain ⟨ta, pa, qa⟩ := ha
  refine ⟨_, pi_enum hg hm pa hs, fun r s A H S Q er R h => ?_⟩
  unfold evI at h
  refine qa r s A H S _ er R (h.bind R fun ds S1 A1 H1 vs e0 e1 R1 p1 h1 => ?_)
  obtain ⟨d, rfl⟩ := len1 e0
  obtain ⟨v, rfl, hv⟩ := repL1 p1
  simp only [srcOf, srcEnu] at h1
  cases d <;> try exact h1.elim
  rename_i m
  dsimp only at h1
  cases q2 : conOf S1[m]? with
  | none => rw [q2] at h1; exact h1.elim
  | some xs =>
    rw [q2] at h1
    obtain ⟨b, vs, rfl, h0, h2, h3⟩ := rep_lst R1 hv (conOf_some q2)
    rw [xo.K]
    exact ⟨b, vs, rfl, .of h2, h1 A1 H1 _ .refl R1 (jrep_enu h0)⟩
theorem si_zip {a b : C} {ea eb : Expr} {elts : List Expr} {kk : Nat} {tpos p pos : Pos} (xo : Xok G X n) (hg : Gl X "zip") (hm : X.mg "zip" = none) (hs : starEach [ea, eb] X.env = [(false, eval ea X.env), (false, eval eb X.env)]) (hs2 : starEach [eb] X.env = [(false, eval eb X.env)])
    (ha : SA G X E Γ (.cons a (.cons b .nil)) [ea, eb]) : SI G X E Γ .zip (.cons a (.cons b .nil)) (.Tuple elts kk tpos) (.Call (.Name "zip" p) [ea, eb] [] pos) := by
  obtain ⟨ta, pa, qa⟩ := ha
  refine ⟨_, RZ.pi_zipA hg hm pa (by rw [hs, hs2]) (by rw [hs2]; rfl), fun r s A H S Q er R h => ?_⟩
  unfold evI at h
  refine qa r s A H S _ er R (h.bind R fun ds S1 A1 H1 vs e0 e1 R1 p1 h1 => ?_)
  obtain ⟨d, d', rfl⟩ := len2 e0
  obtain ⟨v, w, rfl, hv, hw⟩ := repL2 p1
  simp only [srcOf, srcZip] at h1
  rw [xo.K]
  cases d <;> try exact h1.elim
  · cases d' <;> try exact h1.elim
    rename_i m k
    dsimp only at h1
    cases q2 : conOf S1[m]? with
    | none => rw [q2] at h1; exact h1.elim
    | some xs =>
      rw [q2] at h1
      dsimp only [Option.bind_some] at h1
      cases q3 : conOf S1[k]? with
      | none => rw [q3] at h1; exact h1.elim
      | some ys =>
        rw [q3] at h1
        obtain ⟨b, vs, rfl, h0, h2, h3⟩ := rep_lst R1 hv (conOf_some q2)
        obtain ⟨b', vs', rfl, h0', h2', h3'⟩ := rep_lst R1 hw (conOf_some q3)
        exact ⟨b, b', vs, vs', rfl, .inl ⟨.of h2, .of h2', h1 A1 H1 _ .refl R1 (jrep_zip h0 h0')⟩⟩
  · cases d' <;> try exact h1.elim
    rename_i xs ys
    obtain ⟨b, vs, rfl, h2, h3⟩ := rep_tup hv
    obtain ⟨b', vs', rfl, h2', h3'⟩ := rep_tup hw
    exact ⟨b, b', vs, vs', rfl, .inr ⟨.of h2, .of h2', h1 A1 H1 _ .refl R1 (jrep_zipT R1 h2 h3 h2' h3')⟩⟩
end
end MP

namespace MP
open PySem L2
section
variable {G : Gx} {X : Cx} {E : XK} {Γ : Cal} {n : Nat} {A A1 A' : List Addr} {H H1 H' : Hp} {S S1 S' : Store}

/-! ### wiping -/
theorem wipe_get {s : St} {j : Nat} : ∀ (ws : List Nat), (wipe s ws)[j]? = if j ∈ ws then (s[j]?).map (fun _ => none) else s[j]?
  | [] => by simp [wipe]
  | w :: ws => by
    unfold wipe
    rw [List.getElem?_set, wipe_get ws, wipe_length]
    by_cases hw : w = j
    · subst hw
      rw [if_pos rfl, if_pos List.mem_cons_self]
      by_cases hl : w < s.length
      · rw [if_pos hl]; simp [hl]
      · rw [if_neg hl, List.getElem?_eq_none (by omega)]; rfl
    · rw [if_neg hw]
      by_cases hj : j ∈ ws
      · rw [if_pos hj, if_pos (List.mem_cons_of_mem _ hj)]
      · rw [if_neg hj, if_neg (by simp [hj, Ne.symm hw])]
theorem wipe_set {s : St} {i : Nat} {v : Option V} {ws : List Nat} (h : i ∈ ws) : wipe (s.set i v) ws = wipe s ws := by
  refine List.ext_getElem? fun j => ?_
  rw [wipe_get, wipe_get]
  by_cases hj : j ∈ ws
  · rw [if_pos hj, if_pos hj, List.getElem?_set]
    by_cases he : i = j
    · subst he
      rw [if_pos rfl]
      by_cases hl : i < s.length
      · rw [if_pos hl]; simp [hl]
      · rw [if_neg hl, List.getElem?_eq_none (by omega)]
    · rw [if_neg he]
  · rw [if_neg hj, if_neg hj, List.getElem?_set_ne (show i ≠ j from fun e => hj (by rw [← e]; exact h))]
theorem wipe_wipe {s : St} {ws : List Nat} : wipe (wipe s ws) ws = wipe s ws := by
  refine List.ext_getElem? fun j => ?_
  rw [wipe_get, wipe_get]
  by_cases hj : j ∈ ws
  · rw [if_pos hj, if_pos hj, Option.map_map]; rfl
  · rw [if_neg hj, if_neg hj]
theorem wipeD_get {r : Env} {j : Nat} {d : D} : ∀ (ws : List Nat), (wipeD r ws)[j]? = some (some d) → r[j]? = some (some d) ∧ j ∉ ws
  | [], h => ⟨h, by simp⟩
  | w :: ws, h => by
    unfold wipeD at h
    rw [List.getElem?_set] at h
    by_cases hw : w = j
    · rw [if_pos hw] at h
      split at h <;> cases h
    · rw [if_neg hw] at h
      obtain ⟨h1, h2⟩ := wipeD_get ws h
      exact ⟨h1, by simp [h2, Ne.symm hw]⟩
theorem wipeD_len {r : Env} : ∀ (ws : List Nat), (wipeD r ws).length = r.length
  | [] => rfl
  | w :: ws => by unfold wipeD; rw [List.length_set, wipeD_len ws]
theorem ERel.wipe {r : Env} {s : St} (h : ERel G A H r s) (ws : List Nat) : ERel G A H (wipeD r ws) (L2.wipe s ws) := by
  refine ⟨by rw [wipeD_len, wipe_length]; exact h.1, fun i d e => ?_⟩
  obtain ⟨e1, e2⟩ := wipeD_get ws e
  obtain ⟨v, e3, e4⟩ := h.2 i d e1
  exact ⟨v, by rw [wipe_get, if_neg e2]; exact e3, e4⟩
theorem ERel.set {r : Env} {s : St} {i : Nat} {d : D} {v : V} (h : ERel G A H r s) (p : Rep G A H d v) : ERel G A H (r.set i (some d)) (s.set i (some v)) := by
  refine ⟨by simp [h.1], fun j d' e => ?_⟩
  rw [List.getElem?_set] at e
  rw [List.getElem?_set]
  by_cases hj : i = j
  · rw [if_pos hj] at e ⊢
    split at e
    · rename_i hl
      cases e
      rw [if_pos (by rw [← h.1]; exact hl)]
      exact ⟨v, rfl, p⟩
    · cases e
  · rw [if_neg hj] at e ⊢
    exact h.2 j d' e

/-! ### targets -/
/-- names in slots -/
def namesOk (N : List Str) (sc : Scope) : List Nat → List Expr → Bool
  | [], [] => true
  | i :: is, .Name x _ :: es => decide (N[i]? = some x) && decide (sc.names.lookup x = some .local ∨ sc.names.lookup x = some .cell) && namesOk N sc is es
  | _, _ => false
def gNames : List Nat → TGs
  | [] => gNil
  | i :: is => gCons (gName i) (gNames is)
theorem names_star {N : List Str} {sc : Scope} {env : PySem.Env} : ∀ {is : List Nat} {es : List Expr}, namesOk N sc is es = true → (assignEach es env).length = is.length ∧ (assignEach es env).findIdx? (·.1) = none
  | [], [], _ => ⟨rfl, rfl⟩
  | i :: is, e :: es, h => by
    cases e <;> simp only [namesOk, Bool.false_eq_true] at h
    rename_i x p
    simp only [Bool.and_eq_true, decide_eq_true_eq] at h
    obtain ⟨h1, h2⟩ := names_star (env := env) h.2
    have e1 : assignEach (.Name x p :: es) env = (false, assign (.Name x p) env) :: assignEach es env := rfl
    rw [e1]
    refine ⟨by simp [h1], ?_⟩
    rw [List.findIdx?_cons]
    simp [h2]
  | [], _ :: _, h => by simp [namesOk] at h
  | _ :: _, [], h => by simp [namesOk] at h
/-- the names of a scope may be stored here -/
def CanSet (X : Cx) (sc : Scope) : Prop := ∀ x, (sc.names.lookup x = some .local ∨ sc.names.lookup x = some .cell) → Loc X.env.scope x ∧ (X.fn x = true ∨ X.env.scope.names.lookup x = some .local)
theorem pgs_names {sc : Scope} (hN : X.N.Nodup) (cs : CanSet X sc) : ∀ {is : List Nat} {es : List Expr}, namesOk X.N sc is es = true → PGs X es (gNames is)
  | [], [], _ => pgs_nil
  | i :: is, e :: es, h => by
    cases e <;> simp only [namesOk, Bool.false_eq_true] at h
    rename_i x p
    simp only [Bool.and_eq_true, decide_eq_true_eq] at h
    exact pgs_cons (pg_name hN h.1.1 (cs x h.1.2).1 (cs x h.1.2).2) (pgs_names hN cs h.2) rfl
  | [], _ :: _, h => by simp [namesOk] at h
  | _ :: _, [], h => by simp [namesOk] at h
def Tg.ok (N : List Str) (sc : Scope) (tg : Tg) (e : Expr) : Bool :=
  match tg with
  | .one i => namesOk N sc [i] [e]
  | .many is => match e with
    | .Tuple es _ _ => namesOk N sc is es
    | _ => false
def Tg.rd (K : PySem.W.Frag) : Tg → TG
  | .one i => gName i
  | .many is => gTup K is.length (gNames is)
theorem pg_tg {sc : Scope} {tg : Tg} {e : Expr} (hc : X.calm = true) (hN : X.N.Nodup) (cs : CanSet X sc) (h : tg.ok X.N sc e = true) : PG X e (tg.rd X.K) := by
  cases tg with
  | one i =>
    cases e <;> simp only [Tg.ok, namesOk, Bool.false_eq_true] at h
    rename_i x p
    simp only [Bool.and_eq_true, decide_eq_true_eq] at h
    exact pg_name hN h.1.1 (cs x h.1.2).1 (cs x h.1.2).2
  | many is =>
    cases e <;> simp only [Tg.ok, Bool.false_eq_true] at h
    rename_i es k p
    obtain ⟨h1, h2⟩ := names_star (env := X.env) h
    exact pg_tup hc (pgs_names hN cs h) h1 h2
theorem gNames_ok {Q : St → Hp → Prop} : ∀ {is : List Nat} {ds : List D} {vs : List V} {r r' : Env} {s : St}, RepL G A H ds vs → ERel G A H r s → setAll is ds r = some r' →
    (∀ s', ERel G A H r' s' → (∀ ws, (∀ i ∈ is, i ∈ ws) → wipe s' ws = wipe s ws) → Q s' H) → gNames is vs s H Q
  | [], _, _, r, r', s, .nil, er, e, h => by
    simp only [setAll, Option.some.injEq] at e
    subst e
    exact ⟨rfl, h s er fun _ _ => rfl⟩
  | i :: is, _, _, r, r', s, .cons (v := v) (vs := vs) p t, er, e, h => by
    simp only [setAll] at e
    refine ⟨v, vs, rfl, ?_⟩
    refine gNames_ok t (er.set p) e fun s' er' hw => h s' er' fun ws hm => ?_
    rw [hw ws fun j hj => hm j (List.mem_cons_of_mem _ hj), wipe_set (hm i List.mem_cons_self)]
  | [], _, _, _, _, _, .cons _ _, _, e, _ => by simp [setAll] at e
  | _ :: _, _, _, _, _, _, .nil, _, e, _ => by simp [setAll] at e
theorem tg_ok {tg : Tg} {x : D} {v : V} {r r' : Env} {s : St} {Q : St → Hp → Prop} (p : Rep G A H x v) (er : ERel G A H r s) (e : tg.set x r = some r')
    (h : ∀ s', ERel G A H r' s' → (∀ ws, (∀ i ∈ tg.slots, i ∈ ws) → wipe s' ws = wipe s ws) → Q s' H) : tg.rd G.K v s H Q := by
  cases tg with
  | one i =>
    simp only [Tg.set, Option.some.injEq] at e
    subst e
    exact h _ (er.set p) fun ws hm => wipe_set (hm i (by simp [Tg.slots]))
  | many is =>
    simp only [Tg.set] at e
    split at e
    · rename_i ds
      split at e
      · rename_i hl
        obtain ⟨a, vs, rfl, h1, h2⟩ := rep_tup p
        exact ⟨a, vs, rfl, .of h1, by rw [← h2.length]; exact hl, gNames_ok h2 er e h⟩
      · cases e
    · cases e

/-! ### one reading for many contexts -/
theorem uniE {ι : Type} {Y : ι → Cx} {e : Expr} {Z : TE → Prop} (hZ : ∀ ts : ι → TE, (∀ p, Z (ts p)) → Z fun σ H Q => ∀ p, ts p σ H Q) (h : ∀ p, ∃ t, PE (Y p) e t ∧ Z t) : ∃ t, (∀ p, PE (Y p) e t) ∧ Z t := by
  refine ⟨fun σ H Q => ∀ p, (h p).choose σ H Q, fun p => ⟨fun pins s σ H Q I q => (h p).choose_spec.1.run pins s σ H Q I (q p)⟩, hZ _ fun p => (h p).choose_spec.2⟩
theorem uniT {ι : Type} {Y : ι → Cx} {es : List Expr} {Z : TT → Prop} (hZ : ∀ ts : ι → TT, (∀ p, Z (ts p)) → Z fun σ H Q => ∀ p, ts p σ H Q) (h : ∀ p, ∃ t, PTs (Y p) es t ∧ Z t) : ∃ t, (∀ p, PTs (Y p) es t) ∧ Z t := by
  refine ⟨fun σ H Q => ∀ p, (h p).choose σ H Q, fun p => ⟨fun pins s σ H Q I q => (h p).choose_spec.1.run pins s σ H Q I (q p)⟩, hZ _ fun p => (h p).choose_spec.2⟩

/-! ### an object beside the store -/
theorem mut_tup {u : HO} (mu : Mut (some u)) (vs : List V) : HO.tup vs ≠ u := by rintro rfl; exact mu
theorem mut_frz {u : HO} (mu : Mut (some u)) (ob : Obj) (w : HO) : HO.frz ob w ≠ u := by rintro rfl; exact mu
theorem Rep.side {D0 : Addr} {u u' : HO} (mu : Mut (some u)) (hd : H D0 = some u) : ∀ {d : D} {v : V}, Rep G A H d v → Rep G A (upd H D0 u') d v := by
  have tp : ∀ {a : Addr} {vs : List V}, H a = some (.tup vs) → upd H D0 u' a = some (.tup vs) := fun {a vs} h => by rw [upd_ne (ne_of h hd (mut_tup mu vs))]; exact h
  have fz : ∀ {a : Addr} {ob : Obj} {w : HO}, H a = some (.frz ob w) → upd H D0 u' a = some (.frz ob w) := fun {a ob w} h => by rw [upd_ne (ne_of h hd (mut_frz mu ob w))]; exact h
  intro d v r
  refine Rep.rec (motive_1 := fun d v _ => Rep G A (upd H D0 u') d v) (motive_2 := fun ds vs _ => RepL G A (upd H D0 u') ds vs) .non .bl .int .str .ty (fun h => .own h) (fun h => .ref h) (fun h _ ih => .tup (tp h) ih)
    (fun h _ ih => .con (by
      rcases h with ⟨ob, h⟩ | h
      · exact .inl ⟨ob, fz h⟩
      · exact .inr h) ih) .nil (fun _ _ i1 i2 => .cons i1 i2) r
theorem RepL.side {D0 : Addr} {u u' : HO} (mu : Mut (some u)) (hd : H D0 = some u) : ∀ {ds : List D} {vs : List V}, RepL G A H ds vs → RepL G A (upd H D0 u') ds vs
  | _, _, .nil => .nil
  | _, _, .cons r t => .cons (r.side mu hd) (RepL.side mu hd t)
theorem SRel.side {D0 : Addr} {u u' : HO} (R : SRel G A H S) (mu : Mut (some u)) (hd : H D0 = some u) (hn : D0 ∉ A) : SRel G A (upd H D0 u') S := by
  refine ⟨R.len, R.nd, fun m o a h1 h2 => ?_⟩
  have ne : a ≠ D0 := fun z => hn (z ▸ List.mem_iff_getElem?.mpr ⟨m, h2⟩)
  have q := R.obj m o a h1 h2
  cases o with
  | lst xs => obtain ⟨vs, e, p⟩ := q; exact ⟨vs, by rw [upd_ne ne]; exact e, p.side mu hd⟩
  | dic kvs => obtain ⟨vs, e, k, p⟩ := q; exact ⟨vs, by rw [upd_ne ne]; exact e, k, p.side mu hd⟩
  | ins c fs => obtain ⟨dx, vs, e, k, p⟩ := q; exact ⟨dx, vs, by rw [upd_ne ne]; exact e, k, p.side mu hd⟩
theorem Ext.side {D0 : Addr} {u : HO} (e : Ext A1 H1 A H) (h0 : H1 D0 = none) : Ext A1 H1 A (upd H D0 u) :=
  ⟨e.pre, fun p o h n => by rw [upd_ne (ne_of_none h h0)]; exact e.keep p o h n⟩
theorem Ext.notIn {D0 : Addr} {u : HO} (e : Ext A H A' H') (hd : H D0 = some u) (hn : D0 ∉ A) : H' D0 = some u ∧ D0 ∉ A' := by
  refine ⟨e.keep _ _ hd hn, fun z => ?_⟩
  obtain ⟨B, rfl, hB⟩ := e.pre
  rcases List.mem_append.mp z with z | z
  · exact hn z
  · rw [hB _ z] at hd; cases hd
/-- it joins the store -/
theorem SRel.join {D0 : Addr} {o0 : O} (R : SRel G A H S) (hn : D0 ∉ A) (ho : ORep G A H D0 o0) : SRel G (A ++ [D0]) H (S ++ [o0]) := by
  have ix : ∀ {m : Nat} {a : Addr}, A[m]? = some a → (A ++ [D0])[m]? = some a := fun {m a} h => by
    rw [List.getElem?_append_left]
    · exact h
    · rcases Nat.lt_or_ge m A.length with q | q
      · exact q
      · rw [List.getElem?_eq_none q] at h; cases h
  have rp : ∀ {d : D} {v : V}, Rep G A H d v → Rep G (A ++ [D0]) H d v := fun {d v} r =>
    Rep.rec (motive_1 := fun d v _ => Rep G (A ++ [D0]) H d v) (motive_2 := fun ds vs _ => RepL G (A ++ [D0]) H ds vs) .non .bl .int .str .ty (fun h => .own h) (fun h => .ref (ix h)) (fun h _ ih => .tup h ih) (fun h _ ih => .con h ih) .nil (fun _ _ i1 i2 => .cons i1 i2) r
  have rpl : ∀ {ds : List D} {vs : List V}, RepL G A H ds vs → RepL G (A ++ [D0]) H ds vs := by
    intro ds
    induction ds with
    | nil => intro vs h; cases h; exact .nil
    | cons d ds ih => intro vs h; cases h with | cons a b => exact .cons (rp a) (ih b)
  have rpo : ∀ {a : Addr} {o : O}, ORep G A H a o → ORep G (A ++ [D0]) H a o := by
    intro a o q
    cases o with
    | lst xs => obtain ⟨vs, e, p⟩ := q; exact ⟨vs, e, rpl p⟩
    | dic kvs => obtain ⟨vs, e, k, p⟩ := q; exact ⟨vs, e, k, rpl p⟩
    | ins c fs => obtain ⟨dx, vs, e, k, p⟩ := q; exact ⟨dx, vs, e, k, rpl p⟩
  refine ⟨by simp [R.len], ?_, fun m o a h1 h2 => ?_⟩
  · rw [List.nodup_append]
    refine ⟨R.nd, by simp, fun x hx y hy => ?_⟩
    rw [List.mem_singleton.mp hy]
    rintro rfl
    exact hn hx
  · rcases Nat.lt_or_ge m S.length with hm | hm
    · rw [List.getElem?_append_left hm] at h1
      rw [List.getElem?_append_left (by rw [R.len]; exact hm)] at h2
      exact rpo (R.obj m o a h1 h2)
    · rw [List.getElem?_append_right hm] at h1
      rw [List.getElem?_append_right (by rw [R.len]; exact hm), R.len] at h2
      have h3 : m - S.length = 0 := by
        rcases Nat.eq_zero_or_pos (m - S.length) with z | z
        · exact z
        · rw [List.getElem?_eq_none (show [o0].length ≤ m - S.length from z)] at h1; cases h1
      rw [h3] at h1 h2
      simp at h1 h2
      subst h1 h2
      exact rpo ho
theorem Ext.join {D0 : Addr} (e : Ext A1 H1 A H) (h0 : H1 D0 = none) : Ext A1 H1 (A ++ [D0]) H := by
  obtain ⟨B, rfl, hB⟩ := e.pre
  refine ⟨⟨B ++ [D0], by simp, fun b hb => ?_⟩, e.keep⟩
  rcases List.mem_append.mp hb with hb | hb
  · exact hB b hb
  · rw [List.mem_singleton.mp hb]; exact h0
end
end MP

namespace MP
open PySem L2
abbrev E0' : XK := fun _ _ _ => False
section
variable {G : Gx} {X : Cx} {E : XK} {Γ : Cal} {n : Nat}

abbrev BlkIx := Shared × Hp × Addr × List (Str × Addr) × List Addr
abbrev blkOf (X : Cx) (scope : Scope) (p : BlkIx) : Cx := X.blk p.1 p.2.1 scope (compEnvC scope p.2.2.2.1 p.2.2.1 X.env) p.2.2.2.2
theorem canSet_blk {scope : Scope} {p : BlkIx} : CanSet (blkOf X scope p) scope := by
  intro x h
  have sc : (blkOf X scope p).env.scope = relS scope X.env.scope := rfl
  have fn : (blkOf X scope p).fn x = (scope.names.lookup x == some .cell) := rfl
  rcases h with h | h
  · have z := lookup_relS_keep (sc := X.env.scope) (by simp) h
    exact ⟨.inl (by rw [sc]; exact z), .inr (by rw [sc]; exact z)⟩
  · have z := lookup_relS_keep (sc := X.env.scope) (by simp) h
    exact ⟨.inr (by rw [sc]; exact z), .inl (by rw [fn, h]; rfl)⟩

def SndE (G : Gx) (E : XK) (Γ : Cal) (c : C) (t : TE) : Prop := ∀ r s A H S Q, ERel G A H r s → SRel G A H S → FinE G A H (evE Γ c r S) Q E → t s H Q
def SndB (G : Gx) (E : XK) (Γ : Cal) (c : C) (t : TT) : Prop := ∀ r s A H S Q, ERel G A H r s → SRel G A H S → FinB G A H (evE Γ c r S) Q E → t s H Q
/-- one turn of a comprehension -/
def turnD (Γ : Cal) (tg : Tg) (cond elt : C) (r : Env) (v : D) (S : Store) : Res (Option D) :=
  match tg.set v (wipeD r tg.slots) with
  | some r' => (condD (evE Γ cond r' S) (evE Γ elt r')).noX
  | none => .bad
theorem evE_lc {tg : Tg} {it : It} {x cond elt : C} {r : Env} {S : Store} : evE Γ (.lc tg it x cond elt) r S = (evI Γ it x r S).bind fun src S =>
    if src.len S ≤ lim then (lcL src (turnD Γ tg cond elt r) (src.len S) 0 [] S).bind fun ys S => newL ys S else .bad := by
  simp only [evE, evI]
  cases evA Γ x r S with
  | ok ds S1 =>
    dsimp only [Res.bind]
    cases srcOf it ds S1 with
    | none => rfl
    | some src => rfl
  | exc c S1 => rfl
  | bad => rfl
/-- a turn that ends well -/
theorem turnD_ok {tg : Tg} {cond elt : C} {r : Env} {v : D} {S S2 : Store} {y : Option D} (h : turnD Γ tg cond elt r v S = .ok y S2) :
    ∃ r', tg.set v (wipeD r tg.slots) = some r' ∧ ((∃ S1 z, evE Γ cond r' S = .ok (.bl true) S1 ∧ evE Γ elt r' S1 = .ok z S2 ∧ y = some z) ∨ (evE Γ cond r' S = .ok (.bl false) S2 ∧ y = none)) := by
  unfold turnD at h
  split at h
  · rename_i r' e
    refine ⟨r', e, ?_⟩
    unfold condD at h
    cases q : evE Γ cond r' S with
    | ok d S1 =>
      rw [q] at h
      dsimp only [Res.bind] at h
      cases d with
      | bl b =>
        cases b with
        | true =>
          dsimp only [truD] at h
          cases q2 : evE Γ elt r' S1 with
          | ok z S3 =>
            rw [q2] at h
            simp only [Res.bind, Res.noX, Res.ok.injEq] at h
            obtain ⟨rfl, rfl⟩ := h
            exact .inl ⟨S1, z, rfl, q2, rfl⟩
          | exc c S3 => rw [q2] at h; cases h
          | bad => rw [q2] at h; cases h
        | false =>
          simp only [truD, Res.noX, Res.ok.injEq] at h
          obtain ⟨rfl, rfl⟩ := h
          exact .inr ⟨rfl, rfl⟩
      | _ => cases h
    | exc c S1 => rw [q] at h; cases h
    | bad => rw [q] at h; cases h
  · cases h
theorem turnD_noexc {tg : Tg} {cond elt : C} {r : Env} {v : D} {S : Store} {c : Str} {S2 : Store} : turnD Γ tg cond elt r v S ≠ .exc c S2 := by
  unfold turnD
  split
  · unfold Res.noX
    split <;> simp
  · simp
theorem lc_core' {tg : Tg} {cond elt : C} {tt : TT} {te : TE} {r : Env} {s : St} {A1 : List Addr} {H1 : Hp} {S0 : Store} {J : L2.It} {src : Src} {Q : VK} {D0 : Addr} (hT : SndB G E0' Γ cond tt) (hE : SndE G E0' Γ elt te)
    (R0 : SRel G A1 H1 S0) (er : ERel G A1 H1 r s) (hJ : JRep G A1 H1 src J) (hD : H1 D0 = none) (N : Nat) (hN : N ≤ lim)
    (h : FinE G A1 H1 ((lcL src (turnD Γ tg cond elt r) N 0 [] S0).bind fun ys S => newL ys S) Q E) :
    ∃ W : Nat → Nat → Hp → Prop, (∃ m, W 0 m (upd H1 D0 (.lst []))) ∧ ∀ i m H, W i m H →
      (J.stop i H ∧ Q (.ref D0) H) ∨ (J.go i H ∧ ∃ Nx : Hp → Prop, (∀ H', Nx H' → ∃ m', m' < m ∧ W (i + 1) m' H') ∧ ∀ x H', J.yld i H x H' → tg.rd G.K x (wipe s tg.slots) H' fun σ2 H2 => wipe σ2 tg.slots = wipe s tg.slots ∧ tt σ2 H2 fun b H3 =>
        if b = true then te σ2 H3 fun y H4 => ∃ acc, H4 D0 = some (.lst acc) ∧ acc.length < sizeLine ∧ Nx (upd H4 D0 (.lst (acc ++ [y]))) else Nx H3) := by
  refine ⟨fun i m H => i + m = N ∧ ∃ A' acc vs S', Ext A1 H1 A' H ∧ SRel G A' H S' ∧ D0 ∉ A' ∧ H D0 = some (.lst vs) ∧ RepL G A' H acc vs ∧ acc.length ≤ i ∧ FinE G A1 H1 ((lcL src (turnD Γ tg cond elt r) m i acc S').bind fun ys S => newL ys S) Q E,
    ⟨N, by omega, A1, [], [], S0, (Ext.refl).side hD, R0.laid hD, R0.not_none hD, upd_same, .nil, Nat.zero_le _, h⟩, ?_⟩
  rintro i m H ⟨hm, A', acc, vs, S', ex, R', nD, hd, ra, hl, fin⟩
  obtain ⟨jstop, jgo⟩ := hJ i A' H S' ex R'
  have stop : src.at i S' = some none → lcL src (turnD Γ tg cond elt r) m i acc S' = .ok acc S' → J.stop i H ∧ Q (.ref D0) H := by
    intro q e
    rw [e] at fin
    refine ⟨jstop q, ?_⟩
    exact fin (A' ++ [D0]) H (.ref D0) (ex.join hD) (R'.join nD ⟨vs, hd, ra⟩) (.ref (by rw [← R'.len]; simp))
  cases q : src.at i S' with
  | none => cases m <;> (simp only [lcL, q] at fin; exact fin.elim)
  | some o =>
    cases o with
    | none => exact .inl (stop q (by cases m <;> simp only [lcL, q]))
    | some x =>
      cases m with
      | zero => simp only [lcL, q] at fin; exact fin.elim
      | succ m =>
        simp only [lcL, q] at fin
        obtain ⟨go, yld⟩ := jgo x q
        cases q2 : turnD Γ tg cond elt r x S' with
        | bad => rw [q2] at fin; exact fin.elim
        | exc c S2 => exact absurd q2 turnD_noexc
        | ok yo S2 =>
          rw [q2] at fin
          dsimp only [Res.bind] at fin
          obtain ⟨r', e1, e2⟩ := turnD_ok q2
          refine .inr ⟨go, fun H' => ∃ A'' acc' vs', Ext A1 H1 A'' H' ∧ SRel G A'' H' S2 ∧ D0 ∉ A'' ∧ H' D0 = some (.lst vs') ∧ RepL G A'' H' acc' vs' ∧ acc'.length ≤ i + 1 ∧ FinE G A1 H1 ((lcL src (turnD Γ tg cond elt r) m (i + 1) acc' S2).bind fun ys S => newL ys S) Q E, ?_, ?_⟩
          · rintro H' ⟨A'', acc', vs', z1, z2, z3, z4, z5, z6, z7⟩
            exact ⟨m, by omega, by omega, A'', acc', vs', S2, z1, z2, z3, z4, z5, z6, z7⟩
          · intro v H' y
            obtain ⟨x1, R1, p1⟩ := yld v H' y
            have ex1 : Ext A1 H1 A' H' := ex.trans R0 R' x1
            have er1 : ERel G A' H' (wipeD r tg.slots) (wipe s tg.slots) := (er.ext R0 ex1).wipe _
            obtain ⟨hd1, nD1⟩ := x1.notIn hd nD
            refine tg_ok p1 er1 e1 fun s2 er2 hw => ⟨?_, ?_⟩
            · rw [hw tg.slots fun _ z => z]; exact wipe_wipe
            · refine hT r' s2 A' H' S' _ er2 R1 ?_
              unfold FinB
              rcases e2 with ⟨S3, z, q3, q4, rfl⟩ | ⟨q3, rfl⟩
              · rw [q3]
                intro A3 H3 b x3 R3 hb
                cases hb
                rw [if_pos rfl]
                refine hE r' s2 A3 H3 S3 _ (er2.ext R1 x3) R3 ?_
                rw [q4]
                intro A4 H4 u x4 R4 p4
                have x14 : Ext A' H' A4 H4 := x3.trans R1 R3 x4
                obtain ⟨hd4, nD4⟩ := x14.notIn hd1 nD1
                have ra4 := (ra.ext R' x1).ext R1 x14
                refine ⟨vs, hd4, ?_, A4, acc ++ [z], vs ++ [u], (ex1.trans R0 R1 x14).side hD, R4.side (u := .lst vs) trivial hd4 nD4, nD4, upd_same, (ra4.append (.cons p4 .nil)).side (u := .lst vs) trivial hd4, by simp; omega, fin⟩
                rw [← lim_eq, ← ra.length]
                omega
              · rw [q3]
                intro A3 H3 b x3 R3 hb
                cases hb
                rw [if_neg Bool.false_ne_true]
                obtain ⟨hd3, nD3⟩ := x3.notIn hd1 nD1
                exact ⟨A3, acc, vs, ex1.trans R0 R1 x3, R3, nD3, hd3, (ra.ext R' x1).ext R1 x3, by omega, fin⟩
theorem se_lc {tg : Tg} {it : It} {x cond elt : C} {etg eiter eelt : Expr} {ifs : List Expr} {scope : Scope} {own : List (Str × Nat)} {pos : Pos} (xo : Xok G X n) (hi : SI G X E Γ it x etg eiter) (ok : BlkOk X.N X.env.scope scope own)
    (hown : own.map (·.2) = tg.slots) (htg : tg.ok X.N scope etg = true) (hT : ∀ p : BlkIx, ∃ t, PTs (blkOf X scope p) ifs t ∧ SndB G E0' Γ cond t) (hE : ∀ p : BlkIx, SE G (blkOf X scope p) E0' Γ elt eelt)
    (hs : ∀ x, foldedSetIterable eiter X.env x = pure x) : SE G X E Γ (.lc tg it x cond elt) (.ListComp eelt [⟨etg, eiter, ifs, 0⟩] scope pos) := by
  obtain ⟨wi, pi, qi⟩ := hi
  obtain ⟨tt, pt, qt⟩ := uniT (Z := SndB G E0' Γ cond) (fun ts h r s A H S Q er R f p => h p r s A H S Q er R f) hT
  obtain ⟨te, pe, qe⟩ := uniE (Z := SndE G E0' Γ elt) (fun ts h r s A H S Q er R f p => h p r s A H S Q er R f) hE
  have hg : ∀ p : BlkIx, PG (blkOf X scope p) etg (tg.rd X.K) := fun p => pg_tg (X := blkOf X scope p) xo.calm xo.nd canSet_blk htg
  refine ⟨_, pe_lc (g := tg.rd X.K) xo.calm xo.nd pi ok (fun s H C cl fp => hg (s, H, C, cl, fp)) (fun s H C cl fp => pt (s, H, C, cl, fp)) (fun s H C cl fp => pe (s, H, C, cl, fp)) hs, fun r s A H S Q er R h => ?_⟩
  rw [evE_lc] at h
  refine qi r s A H S _ er R (h.bind R fun src S1 A1 H1 J _ e1 R1 hJ h1 => ?_)
  intro D0 hD
  rw [hown, xo.K]
  by_cases hN : src.len S1 ≤ lim
  · rw [if_pos hN] at h1
    exact lc_core' qt qe R1 (er.ext R e1) hJ hD _ hN h1
  · rw [if_neg hN] at h1
    exact h1.elim
end
end MP

namespace MP
open PySem L2
section
variable {G : Gx} {X : Cx} {E : XK} {Γ : Cal} {n : Nat} {A A1 A' : List Addr} {H H1 H' : Hp} {S S1 S' : Store}
/-- methods of lists by values -/
def MthOk (G : Gx) (r : V → List V → Hp → VK → Prop) (g : D → List D → Store → Res D) : Prop :=
  ∀ A H S d ds v vs Q E, SRel G A H S → Rep G A H d v → RepL G A H ds vs → FinE G A H (g d ds S) Q E → r v vs H Q
theorem mth_append : ∃ r, MtR X "list.append" r ∧ MthOk G r (mthD .append) := by
  refine ⟨_, mt_append, fun A H S d ds v vs Q E R hd hs h => ?_⟩
  unfold mthD at h
  split at h <;> try exact h.elim
  all_goals (rename_i hf; try cases hf)
  rename_i m x
  obtain ⟨w, rfl, hw⟩ := repL1 hs
  split at h
  · rename_i xs q
    split at h
    · rename_i hl
      obtain ⟨a, us, rfl, h0, h1, h2⟩ := rep_lst R hd q
      refine ⟨a, us, w, rfl, rfl, h1, by rw [← h2.length, ← lim_eq]; exact hl, ?_⟩
      exact h A _ .non (ext_put h0) (R.put h0 ⟨us ++ [w], upd_same, (h2.append (.cons hw .nil)).ext R (ext_put h0)⟩) .non
    · exact h.elim
  · exact h.elim
theorem mth_extend : ∃ r, MtR X "list.extend" r ∧ MthOk G r (mthD .extend) := by
  refine ⟨_, mt_extend, fun A H S d ds v vs Q E R hd hs h => ?_⟩
  unfold mthD at h
  split at h <;> try exact h.elim
  all_goals (rename_i hf; try cases hf)
  rename_i m k
  obtain ⟨w, rfl, hw⟩ := repL1 hs
  split at h
  · rename_i xs ys q q2
    split at h
    · rename_i hl
      obtain ⟨a, us, rfl, h0, h1, h2⟩ := rep_lst R hd q
      obtain ⟨b, ws, rfl, h3, h4, h5⟩ := rep_lst R hw q2
      refine ⟨a, b, us, ws, rfl, rfl, h1, h4, by rw [← h2.length, ← h5.length, ← lim_eq]; exact hl, ?_⟩
      exact h A _ .non (ext_put h0) (R.put h0 ⟨us ++ ws, upd_same, (h2.append h5).ext R (ext_put h0)⟩) .non
    · exact h.elim
  · exact h.elim
theorem kind_tyV {x : D} {v : V} {k : Nat} (xo : Xok G X n) (R : SRel G A H S) (p : Rep G A H x v) (h : kindD x S = k) (h0 : k ≠ 0) : tyV X.K (if k = 1 then "list" else "dict") v H := by
  unfold kindD at h
  split at h
  · split at h
    · rename_i q
      subst h
      obtain ⟨a, vs, rfl, _, h1, h2⟩ := rep_lst R p q
      exact .inl ⟨rfl, vs, .of h1⟩
    · rename_i q
      subst h
      obtain ⟨a, vs, rfl, _, h1, h2, h3⟩ := rep_dic R p q
      exact .inr (.inr (.inl ⟨rfl, .inl ⟨vs, h1⟩⟩))
    · exact absurd h.symm h0
  · exact absurd h.symm h0
theorem bm_ty (m : Bm) : m.ty ≠ 0 := by cases m <;> decide
/-- o.m(e, ..) of a list or a dict -/
theorem se_mth {m : Bm} {T : String} {name : Str} {id : String} {a as : C} {ea e : Expr} {es : List Expr} {apos cpos : Pos} {r : V → List V → Hp → VK → Prop} (xo : Xok G X n) (hT : (if m.ty = 1 then "list" else "dict") = T) (pa : PlainAttrs T) (slot : Slot T name id)
    (hty : typeOf (.builtin id) = pure (.type "method_descriptor")) (hm : MtR X id r) (hk : MthOk G r (mthD m)) (ha : SE G X E Γ a ea) (hs : SA G X E Γ as (e :: es)) (hbase : attributeBase ea name X.env (eval ea X.env) = eval ea X.env)
    (hfew : ((backTo cpos (starEach (e :: es) X.env)).all (fun x => !x.1) && (backToKw cpos (keywordEach [] X.env)).all (fun x => x.1.isSome)
      && decide ((e :: es).length + ([] : List Keyword).length + (if ([] : List Keyword).isEmpty then 0 else 1) < 30)) = true)
    (hline : (apos.endLine == cpos.line) = true) (hst : starEach (e :: es) X.env = (false, eval e X.env) :: starEach es X.env) (hpl : (backTo cpos (starEach es X.env)).any (·.1) = false) :
    SE G X E Γ (.mth m a as) (.Call (.Attribute ea name apos) (e :: es) [] cpos) := by
  obtain ⟨ta, pta, qa⟩ := ha
  obtain ⟨ts, ps, qs⟩ := hs
  refine ⟨_, pe_bm pa slot hty hm pta ps hbase hfew hline hst hpl, fun r s A H S Q er R h => ?_⟩
  simp only [evE] at h
  refine qa r s A H S _ er R (h.bind R fun x S1 A1 H1 v _ e1 R1 p1 h1 => ?_)
  split at h1
  · rename_i hq
    have hq' : kindD x S1 = m.ty := (eq_of_beq hq).symm
    refine ⟨by rw [← hT]; exact kind_tyV xo R1 p1 hq' (bm_ty m), ?_⟩
    refine qs r s A1 H1 S1 _ (er.ext R e1) R1 (h1.bind R1 fun ds S2 A2 H2 vs _ e2 R2 p2 h2 => ?_)
    exact hk A2 H2 S2 x ds v vs Q E R2 (p1.ext R1 e2) p2 h2
  · exact h1.elim

/-! ### dicts as they are written -/
theorem dct0 {pos : Pos} : SE G X E Γ (.dct [] .nil) (.Dict [] [] pos) := by
  refine ⟨_, pe_dnewK, fun r s A H S Q er R h p hp => ?_⟩
  simp only [evE, evA] at h
  exact h (A ++ [p]) _ _ (ext_new hp) (R.new hp ⟨[], upd_same, rfl, .nil⟩) (.ref (new_ix R p))
theorem putK_new {kvs : List (Key × V)} {k : Key} {v : V} (h : k ∉ kvs.map (·.1)) : putK kvs k v = kvs ++ [(k, v)] := by
  unfold putK
  rw [if_neg]
  simp only [List.any_eq_true, decide_eq_true_eq, not_exists, not_and]
  intro kv hkv e
  exact h (List.mem_map.mpr ⟨kv, hkv, e⟩)
theorem mergeK_nd : ∀ (kvs acc : List (Key × V)), ((acc ++ kvs).map (·.1)).Nodup → mergeK acc kvs = acc ++ kvs
  | [], acc, _ => by simp [mergeK]
  | kv :: kvs, acc, h => by
    show mergeK (putK acc kv.1 kv.2) kvs = _
    have h1 : kv.1 ∉ acc.map (·.1) := by
      simp only [List.map_append, List.map_cons] at h
      rw [List.nodup_append] at h
      intro z
      exact h.2.2 _ z _ List.mem_cons_self rfl
    rw [putK_new h1, mergeK_nd kvs]
    · simp
    · simpa using h
/-- the pairs: constant keys -/
def pairsOk : List Key → List (Option Expr) → Bool
  | [], [] => true
  | .inl i :: ks, some (.Constant (.int j) _ _) :: es => decide (i = j) && pairsOk ks es
  | .inr i :: ks, some (.Constant (.str j) _ _) :: es => decide (i = j) && pairsOk ks es
  | _, _ => false
def SPs (G : Gx) (X : Cx) (E : XK) (Γ : Cal) (ks : List Key) (as : C) (pos : Pos) (keys : List (Option Expr)) (values : List Expr) : Prop :=
  ∃ trs, PPs X pos keys values trs ∧ ∀ r s A H S (Q : List (V × V) → Hp → Prop), ERel G A H r s → SRel G A H S →
    FinA G A H (evA Γ as r S) (fun vs H' => Q ((ks.zip vs).map fun kv => (kV kv.1, kv.2)) H') E → tPairs trs s H Q
theorem sps_nil {pos : Pos} : SPs G X E Γ [] .nil pos [] [] := ⟨[], pps_nil, fun r s A H S Q er R h => by simp only [evA] at h; exact h A H [] .refl R RepL.nil⟩
theorem sps_cons {ks : List Key} {k : Key} {a as : C} {pos : Pos} {ek ev : Expr} {keys : List (Option Expr)} {values : List Expr} (hk : PE X ek (tC (kV k))) (ha : SE G X E Γ a ev) (hr : SPs G X E Γ ks as pos keys values) :
    SPs G X E Γ (k :: ks) (.cons a as) pos (some ek :: keys) (ev :: values) := by
  obtain ⟨ta, pa, qa⟩ := ha
  obtain ⟨trs, pr, qr⟩ := hr
  refine ⟨_, pps_cons hk pa pr, fun r s A H S Q er R h => ?_⟩
  simp only [evA] at h
  show ta s H _
  refine qa r s A H S _ er R (h.bind R fun x S1 A1 H1 v _ e1 R1 p1 h1 => ?_)
  refine qr r s A1 H1 S1 _ (er.ext R e1) R1 (h1.bind R1 fun xs S2 A2 H2 vs _ e2 R2 p2 h2 => ?_)
  exact h2 A2 H2 (v :: vs) .refl R2 (RepL.cons (p1.ext R1 e2) p2)
theorem zip_fst : ∀ {ks : List Key} {ds : List D} {vs : List V}, RepL G A H ds vs → (ks.zip ds).map (fun x => x.1) = (ks.zip vs).map (fun x => x.1)
  | [], _, _, _ => rfl
  | _ :: _, _, _, .nil => rfl
  | k :: ks, _, _, .cons r t => by
    simp only [List.zip_cons_cons, List.map_cons]
    rw [zip_fst t]
theorem zip_snd : ∀ {ks : List Key} {ds : List D} {vs : List V}, RepL G A H ds vs → RepL G A H ((ks.zip ds).map (fun x => x.2)) ((ks.zip vs).map (fun x => x.2))
  | [], _, _, _ => .nil
  | _ :: _, _, _, .nil => .nil
  | k :: ks, _, _, .cons r t => .cons r (zip_snd t)
theorem zip_mem {k : Key} : ∀ {ks : List Key} {vs : List V}, k ∈ (ks.zip vs).map (fun x => x.1) → k ∈ ks
  | [], _, h => by simp at h
  | _ :: _, [], h => by simp at h
  | k' :: ks, v :: vs, h => by
    simp only [List.zip_cons_cons, List.map_cons, List.mem_cons] at h
    rcases h with h | h
    · rw [h]; exact List.mem_cons_self
    · exact List.mem_cons_of_mem _ (zip_mem h)
theorem zip_nd : ∀ {ks : List Key} {vs : List V}, ks.Nodup → ((ks.zip vs).map (fun x => x.1)).Nodup
  | [], _, _ => by simp
  | _ :: _, [], _ => by simp
  | k :: ks, v :: vs, h => by
    simp only [List.zip_cons_cons, List.map_cons]
    rw [List.nodup_cons] at h ⊢
    exact ⟨fun z => h.1 (zip_mem z), zip_nd h.2⟩
theorem se_dct {ks : List Key} {as : C} {pos : Pos} {keys : List (Option Expr)} {values : List Expr} (hp : SPs G X E Γ ks as pos keys values) (hall : keys.all (·.isSome) = true) (hl : keys.length = values.length) (h0 : keys ≠ []) (h15 : keys.length ≤ 15)
    (hk : ks.length = keys.length) (nd : ks.Nodup) : SE G X E Γ (.dct ks as) (.Dict keys values pos) := by
  obtain ⟨trs, pr, qr⟩ := hp
  refine ⟨_, pe_disp pr hall hl h0 h15, fun r s A H S Q er R h p hp => ?_⟩
  simp only [evE] at h
  have R1 := R.laid (u := .dK []) hp
  have e1 : Ext A H A (upd H p (.dK [])) := ext_laid hp
  have nA : p ∉ A := R.not_none hp
  refine qr r s A (upd H p (.dK [])) S _ (er.ext R e1) R1 ?_
  cases q : evA Γ as r S with
  | bad => rw [q] at h; exact h
  | exc c S1 => rw [q] at h; exact fun A' H' C x => h A' H' C (e1.trans R R1 x)
  | ok ds S2 =>
    rw [q] at h
    dsimp only [Res.bind] at h
    intro A2 H2 vs x2 R2 p2
    obtain ⟨hd, nD⟩ := x2.notIn upd_same nA
    refine ⟨hd, ks.zip vs, rfl, by rw [List.length_zip]; omega, ?_⟩
    have z : ((([] : List (Key × V)) ++ ks.zip vs).map (·.1)).Nodup := by
      simp only [List.nil_append]
      exact zip_nd nd
    rw [mergeK_nd _ _ z]
    have x02 : Ext A H A2 H2 := e1.trans R R1 x2
    have le := zip_fst (ks := ks) p2
    have re := zip_snd (ks := ks) p2
    refine h (A2 ++ [p]) _ (.ref p) ((x02.side hp).join hp) ((R2.side (u := .dK []) trivial hd nD).join nD ⟨ks.zip vs, by simpa using upd_same, le, re.side (u := .dK []) trivial hd⟩) (.ref (by rw [← R2.len]; simp))
end
end MP

namespace MP
open PySem L2
/-- what is wanted behind a statement -/
def FS (G : Gx) (A : List Addr) (H : Hp) (r : Res Fl) (D : Ends) (E : XK) : Prop :=
  match r with
  | .ok (.nx ρ) S' => ∀ A' H' σ', Ext A H A' H' → SRel G A' H' S' → ERel G A' H' ρ σ' → D.nx σ' H'
  | .ok (.rt d) S' => ∀ A' H' v, Ext A H A' H' → SRel G A' H' S' → Rep G A' H' d v → D.rt v H'
  | .ok (.ct ρ) S' => ∀ A' H' σ', Ext A H A' H' → SRel G A' H' S' → ERel G A' H' ρ σ' → D.ct σ' H'
  | .exc c S' => ∀ A' H' C, Ext A H A' H' → SRel G A' H' S' → G.mg c = some (.ref C) → E (.ref C) none H'
  | .bad => False
def SS (G : Gx) (X : Cx) (E : XK) (Γ : Cal) (W : Nat) (k : K) (sts : List Stmt) : Prop :=
  ∃ t, PSs X sts t ∧ ∀ r s A H S D, ERel G A H r s → SRel G A H S → FS G A H (evS Γ W k r S) D E → t D s H
def S1 (G : Gx) (X : Cx) (E : XK) (Γ : Cal) (W : Nat) (k : K) (st : Stmt) : Prop :=
  ∃ t, PS X st t ∧ ∀ r s A H S D, ERel G A H r s → SRel G A H S → FS G A H (evS Γ W k r S) D E → t D s H
section
variable {G : Gx} {X : Cx} {E : XK} {Γ : Cal} {n W : Nat} {A A1 A' : List Addr} {H H1 H' : Hp} {S S1' S' : Store} {pos : Pos}

theorem FS.mono {r : Res Fl} {D : Ends} (R : SRel G A H S) (R1 : SRel G A1 H1 S1') (x : Ext A H A1 H1) (h : FS G A H r D E) : FS G A1 H1 r D E := by
  match r, h with
  | .ok (.nx ρ) S', h => exact fun A' H' σ' e => h A' H' σ' (x.trans R R1 e)
  | .ok (.rt d) S', h => exact fun A' H' v e => h A' H' v (x.trans R R1 e)
  | .ok (.ct ρ) S', h => exact fun A' H' σ' e => h A' H' σ' (x.trans R R1 e)
  | .exc c S', h => exact fun A' H' C e => h A' H' C (x.trans R R1 e)
  | .bad, h => exact h
/-- an expression, then a statement -/
theorem FS.bindE {α β : Type} {P : List Addr → Hp → α → β → Prop} {r : Res α} {f : α → Store → Res Fl} {D : Ends} {Q' : β → Hp → Prop} (R : SRel G A H S) (h : FS G A H (r.bind f) D E)
    (k : ∀ d S1 A1 H1 v, r = .ok d S1 → Ext A H A1 H1 → SRel G A1 H1 S1 → P A1 H1 d v → FS G A1 H1 (f d S1) D E → Q' v H1) : Fin P G A H r Q' E := by
  cases r with
  | ok d S' => exact fun A' H' v e q p => k d S' A' H' v rfl e q p (FS.mono R q e h)
  | exc c S' => exact h
  | bad => exact h
theorem FS.tru {r : Res D} {f g : Store → Res Fl} {D : Ends} {Q' : Bool → Hp → Prop} (R : SRel G A H S) (h : FS G A H (r.bind fun x S => truD x S f g) D E)
    (k : ∀ b S1 A1 H1, Ext A H A1 H1 → SRel G A1 H1 S1 → FS G A1 H1 (if b = true then f S1 else g S1) D E → Q' b H1) : FinB G A H r Q' E := by
  unfold FinB
  cases r with
  | ok d S' =>
    cases d with
    | bl t =>
      intro A' H' b e R' p
      cases p
      cases t with
      | true => exact k true S' A' H' e R' (FS.mono R R' e h)
      | false => exact k false S' A' H' e R' (FS.mono R R' e h)
    | _ => exact h.elim
  | exc c S' => exact h
  | bad => exact h
theorem ss_skip : SS G X E Γ W .skip [] := ⟨_, pss_nil, fun r s A H S D er R h => by simp only [evS] at h; exact h A H s .refl R er⟩
/-- a statement's end, by what follows -/
def thenK (r : Res Fl) (f : Env → Store → Res Fl) : Res Fl := r.bind fun g S => match g with
  | .nx ρ => f ρ S
  | .rt d => .ok (.rt d) S
  | .ct ρ => .ok (.ct ρ) S
theorem FS.seq {r : Res Fl} {f : Env → Store → Res Fl} {D : Ends} {nx : St → Hp → Prop} (R : SRel G A H S) (h : FS G A H (thenK r f) D E) (k : ∀ ρ S1 A1 H1 σ1, Ext A H A1 H1 → SRel G A1 H1 S1 → ERel G A1 H1 ρ σ1 → FS G A1 H1 (f ρ S1) D E → nx σ1 H1) :
    FS G A H r { D with nx := nx } E := by
  match r, h with
  | .ok (.nx ρ) S', h => exact fun A' H' σ' e R' er => k ρ S' A' H' σ' e R' er (FS.mono R R' e h)
  | .ok (.rt d) S', h => exact h
  | .ok (.ct ρ) S', h => exact h
  | .exc c S', h => exact h
  | .bad, h => exact h
theorem ss_seq {a b : K} {st : Stmt} {rest : List Stmt} (ha : S1 G X E Γ W a st) (hb : SS G X E Γ W b rest) : SS G X E Γ W (.seq a b) (st :: rest) := by
  obtain ⟨ta, pa, qa⟩ := ha
  obtain ⟨tb, pb, qb⟩ := hb
  refine ⟨_, pss_cons pa pb, fun r s A H S D er R h => ?_⟩
  simp only [evS] at h
  exact qa r s A H S _ er R (FS.seq (f := fun ρ S => evS Γ W b ρ S) R h fun ρ S1 A1 H1 σ1 e1 R1 er1 h1 => qb ρ σ1 A1 H1 S1 D er1 R1 h1)
theorem s1_pass : S1 G X E Γ W .skip (.Pass pos) := ⟨_, ps_pass, fun r s A H S D er R h => by simp only [evS] at h; exact h A H s .refl R er⟩
theorem s1_cont : S1 G X E Γ W .cont (.Continue pos) := ⟨_, ps_continue, fun r s A H S D er R h => by simp only [evS] at h; exact h A H s .refl R er⟩
theorem s1_expr {c : C} {e : Expr} (hc : SE G X E Γ c e) (hs : swapsWith e none pos.line X.env = pure false) : S1 G X E Γ W (.expr c) (.Expr e pos) := by
  obtain ⟨t, p, q⟩ := hc
  refine ⟨_, ps_expr p hs, fun r s A H S D er R h => ?_⟩
  simp only [evS] at h
  exact q r s A H S _ er R (h.bindE R fun d S1 A1 H1 v _ e1 R1 p1 h1 => h1 A1 H1 s .refl R1 (er.ext R e1))
theorem s1_ret {c : C} {e : Expr} (hc : SE G X E Γ c e) : S1 G X E Γ W (.ret c) (.Return (some e) pos) := by
  obtain ⟨t, p, q⟩ := hc
  refine ⟨_, ps_ret p, fun r s A H S D er R h => ?_⟩
  simp only [evS] at h
  exact q r s A H S _ er R (h.bindE R fun d S1 A1 H1 v _ e1 R1 p1 h1 => h1 A1 H1 v .refl R1 p1)
theorem s1_retN : S1 G X E Γ W .retN (.Return none pos) := ⟨_, ps_retN, fun r s A H S D er R h => by simp only [evS] at h; exact h A H .non .refl R .non⟩
theorem s1_if {c : C} {ec : Expr} {a b : K} {as bs : List Stmt} (hc : STb G X E Γ c ec) (ha : SS G X E Γ W a as) (hb : SS G X E Γ W b bs) : S1 G X E Γ W (.ife c a b) (.If ec as bs pos) := by
  obtain ⟨tc, pc, qc⟩ := hc
  obtain ⟨ta, pa, qa⟩ := ha
  obtain ⟨tb, pb, qb⟩ := hb
  refine ⟨_, ps_if pc pa pb, fun r s A H S D er R h => ?_⟩
  simp only [evS] at h
  refine qc r s A H S _ er R (FS.tru R h fun k S1 A1 H1 e1 R1 h1 => ?_)
  cases k with
  | true => rw [if_pos rfl] at h1 ⊢; exact qa r s A1 H1 S1 D (er.ext R e1) R1 h1
  | false => rw [if_neg Bool.false_ne_true] at h1 ⊢; exact qb r s A1 H1 S1 D (er.ext R e1) R1 h1
theorem s1_set {i : Nat} {c : C} {x : Str} {e : Expr} {p' : Pos} (hN : X.N.Nodup) (hi : X.N[i]? = some x) (hx : Loc X.env.scope x) (hf : X.fn x = true ∨ X.env.scope.names.lookup x = some .local) (hc : SE G X E Γ c e)
    (hs : swapsWith e (some (.Name x p')) pos.line X.env = pure false) : S1 G X E Γ W (.set i c) (.Assign [.Name x p'] e pos) := by
  obtain ⟨t, p, q⟩ := hc
  refine ⟨_, ps_set hN hi hx p hs hf, fun r s A H S D er R h => ?_⟩
  simp only [evS] at h
  exact q r s A H S _ er R (h.bindE R fun d S1 A1 H1 v _ e1 R1 p1 h1 => h1 A1 H1 _ .refl R1 ((er.ext R e1).set p1))
/-- name = [..] where the store goes first -/
theorem s1_setLc {i : Nat} {y : Str} {py : Pos} {tg : Tg} {it : It} {x cond elt : C} {etg eiter eelt : Expr} {ifs : List Expr} {scope : Scope} {own : List (Str × Nat)} {lpos : Pos} (xo : Xok G X n) (hy : X.N[i]? = some y) (hyl : X.env.scope.names.lookup y = some .local)
    (hsw : swapsWith (.ListComp eelt [⟨etg, eiter, ifs, 0⟩] scope lpos) (some (.Name y py)) pos.line X.env = pure true) (hi : SI G X E Γ it x etg eiter) (ok : BlkOk X.N X.env.scope scope own) (hown : own.map (·.2) = tg.slots) (htg : tg.ok X.N scope etg = true)
    (hT : ∀ p : BlkIx, ∃ t, PTs (blkOf X scope p) ifs t ∧ SndB G E0' Γ cond t) (hE : ∀ p : BlkIx, SE G (blkOf X scope p) E0' Γ elt eelt) (hs : ∀ x, foldedSetIterable eiter X.env x = pure x) :
    S1 G X E Γ W (.set i (.lc tg it x cond elt)) (.Assign [.Name y py] (.ListComp eelt [⟨etg, eiter, ifs, 0⟩] scope lpos) pos) := by
  obtain ⟨wi, pi, qi⟩ := hi
  obtain ⟨tt, pt, qt⟩ := uniT (Z := SndB G E0' Γ cond) (fun ts h r s A H S Q er R f p => h p r s A H S Q er R f) hT
  obtain ⟨te, pe, qe⟩ := uniE (Z := SndE G E0' Γ elt) (fun ts h r s A H S Q er R f p => h p r s A H S Q er R f) hE
  have hg : ∀ p : BlkIx, PG (blkOf X scope p) etg (tg.rd X.K) := fun p => pg_tg (X := blkOf X scope p) xo.calm xo.nd canSet_blk htg
  refine ⟨_, ps_setLc (g := tg.rd X.K) xo.calm xo.nd hy hyl hsw pi ok (fun s H C cl fp => hg (s, H, C, cl, fp)) (fun s H C cl fp => pt (s, H, C, cl, fp)) (fun s H C cl fp => pe (s, H, C, cl, fp)) hs, fun r s A H S D er R h => ?_⟩
  simp only [evS] at h
  have h2 : FinE G A H (evE Γ (.lc tg it x cond elt) r S) (fun x H1 => gName i x s H1 D.nx) E := h.bindE R fun d S1 A1 H1 v _ e1 R1 p1 h1 => h1 A1 H1 _ .refl R1 ((er.ext R e1).set p1)
  rw [evE_lc] at h2
  refine qi r s A H S _ er R (h2.bind R fun src S1 A1 H1 J _ e1 R1 hJ h1 => ?_)
  intro D0 hD
  rw [hown, xo.K]
  by_cases hN : src.len S1 ≤ lim
  · rw [if_pos hN] at h1
    exact lc_core' qt qe R1 (er.ext R e1) hJ hD _ hN h1
  · rw [if_neg hN] at h1
    exact h1.elim
/-- a, b = e -/
theorem s1_unp {is : List Nat} {c : C} {es : List Expr} {e : Expr} {k : Nat} {tp : Pos} {sc : Scope} (xo : Xok G X n) (cs : CanSet X sc) (htg : (Tg.many is).ok X.N sc (.Tuple es k tp) = true) (hc : SE G X E Γ c e)
    (hs : swapsWithSole [.Tuple es k tp] e pos.line X.env = pure false) (hw : swappedStores [.Tuple es k tp] e X.env = pure none) : S1 G X E Γ W (.unp is c) (.Assign [.Tuple es k tp] e pos) := by
  obtain ⟨t, p, q⟩ := hc
  refine ⟨_, ps_asg p (pg_tg xo.calm xo.nd cs htg) hs hw rfl, fun r s A H S D er R h => ?_⟩
  simp only [evS] at h
  refine q r s A H S _ er R (h.bindE R fun d S1 A1 H1 v _ e1 R1 p1 h1 => ?_)
  cases q2 : (Tg.many is).set d r with
  | none => rw [q2] at h1; exact h1.elim
  | some r' =>
    rw [q2] at h1
    rw [xo.K]
    exact tg_ok p1 (er.ext R e1) q2 fun s' er' _ => h1 A1 H1 s' .refl R1 er'
theorem s1_par2 {i j : Nat} {as : C} {x y : Str} {a b : Expr} {px py pt pt2 : Pos} {kt k2 : Nat} (xo : Xok G X n) (hi : X.N[i]? = some x) (hj : X.N[j]? = some y) (hij : i ≠ j) (hx : X.env.scope.names.lookup x = some .local) (hy : X.env.scope.names.lookup y = some .local)
    (ha : SA G X E Γ as [a, b]) (hw : swappedStores [.Tuple [.Name x px, .Name y py] kt pt] (.Tuple [a, b] k2 pt2) X.env = pure (some [x, y])) : S1 G X E Γ W (.par [i, j] as) (.Assign [.Tuple [.Name x px, .Name y py] kt pt] (.Tuple [a, b] k2 pt2) pos) := by
  obtain ⟨ts, ps, qs⟩ := ha
  refine ⟨_, ps_par xo.calm xo.nd hi hj hij hx hy ps hw rfl, fun r s A H S D er R h => ?_⟩
  simp only [evS] at h
  refine qs r s A H S _ er R (h.bindE R fun ds S1 A1 H1 vs _ e1 R1 p1 h1 => ?_)
  cases p1 with
  | nil => exact h1.elim
  | cons r1 t1 => cases t1 with
    | nil => exact h1.elim
    | cons r2 t2 => cases t2 with
      | cons r3 t3 => exact h1.elim
      | nil => exact ⟨_, _, rfl, h1 A1 H1 _ .refl R1 (((er.ext R e1).set r1).set r2)⟩
theorem s1_par3 {i j l : Nat} {as : C} {x y z : Str} {a b c : Expr} {px py pz pt pt2 : Pos} {kt k2 : Nat} (xo : Xok G X n) (hi : X.N[i]? = some x) (hj : X.N[j]? = some y) (hl : X.N[l]? = some z) (hij : i ≠ j) (hil : i ≠ l) (hjl : j ≠ l)
    (hx : X.env.scope.names.lookup x = some .local) (hy : X.env.scope.names.lookup y = some .local) (hz : X.env.scope.names.lookup z = some .local)
    (ha : SA G X E Γ as [a, b, c]) (hw : swappedStores [.Tuple [.Name x px, .Name y py, .Name z pz] kt pt] (.Tuple [a, b, c] k2 pt2) X.env = pure (some [x, y, z])) :
    S1 G X E Γ W (.par [i, j, l] as) (.Assign [.Tuple [.Name x px, .Name y py, .Name z pz] kt pt] (.Tuple [a, b, c] k2 pt2) pos) := by
  obtain ⟨ts, ps, qs⟩ := ha
  refine ⟨_, ps_par3 xo.calm xo.nd hi hj hl hij hil hjl hx hy hz ps hw rfl, fun r s A H S D er R h => ?_⟩
  simp only [evS] at h
  refine qs r s A H S _ er R (h.bindE R fun ds S1 A1 H1 vs _ e1 R1 p1 h1 => ?_)
  cases p1 with
  | nil => exact h1.elim
  | cons r1 t1 => cases t1 with
    | nil => exact h1.elim
    | cons r2 t2 => cases t2 with
      | nil => exact h1.elim
      | cons r3 t3 => cases t3 with
        | cons r4 t4 => exact h1.elim
        | nil => exact ⟨_, _, _, rfl, h1 A1 H1 _ .refl R1 ((((er.ext R e1).set r1).set r2).set r3)⟩
theorem putK_rep {k : Key} {d : D} {v : V} (p : Rep G A H d v) : ∀ {kvs : List (Key × D)} {vs : List (Key × V)}, kvs.map (·.1) = vs.map (·.1) → RepL G A H (kvs.map (·.2)) (vs.map (·.2)) →
    (putK' kvs k d).map (·.1) = (putK vs k v).map (·.1) ∧ RepL G A H ((putK' kvs k d).map (·.2)) ((putK vs k v).map (·.2)) := by
  intro kvs vs h r
  have hany : (kvs.any fun kv => decide (kv.1 = k)) = (vs.any fun kv => decide (kv.1 = k)) := by
    have e1 : (kvs.any fun kv => decide (kv.1 = k)) = (kvs.map (·.1)).any fun x => decide (x = k) := by rw [List.any_map]; rfl
    have e2 : (vs.any fun kv => decide (kv.1 = k)) = (vs.map (·.1)).any fun x => decide (x = k) := by rw [List.any_map]; rfl
    rw [e1, e2, h]
  unfold putK' putK
  rw [hany]
  split
  · rename_i hh
    clear hany hh
    induction kvs generalizing vs with
    | nil =>
      cases vs with
      | nil => exact ⟨rfl, .nil⟩
      | cons => simp at h
    | cons kv kvs ih =>
      cases vs with
      | nil => simp at h
      | cons w vs =>
        simp only [List.map_cons, List.cons.injEq] at h
        simp only [List.map_cons] at r
        cases r with
        | cons r1 r2 =>
          obtain ⟨i1, i2⟩ := ih h.2 r2
          simp only [List.map_cons]
          rw [← h.1]
          by_cases hk : kv.1 = k
          · rw [if_pos hk, if_pos hk]
            exact ⟨by rw [i1], .cons p i2⟩
          · rw [if_neg hk, if_neg hk]
            exact ⟨by rw [i1, h.1], .cons r1 i2⟩
  · simp only [List.map_append]
    exact ⟨by rw [h]; rfl, r.append (.cons p .nil)⟩
theorem set_or {t u : TSet} (h : PSet X t) (h' : PSet X u) : PSet X (fun o i v H Q => t o i v H Q ∨ u o i v H Q) := fun pins s σ H o i v ov iv w Q I ro ri rv q => q.elim (h pins s σ H o i v ov iv w Q I ro ri rv) (h' pins s σ H o i v ov iv w Q I ro ri rv)
/-- o[i] = v -/
theorem s1_put {o i v : C} {eo ei ev : Expr} {p' : Pos} (xo : Xok G X n) (ho : SE G X E Γ o eo) (hi : SE G X E Γ i ei) (hv : SE G X E Γ v ev)
    (ha : ∀ v, assign (.Subscript eo ei p') X.env v = (do
      let ov ← holding [v] (eval eo X.env)
      let iv ← holding [v, ov] (eval ei X.env)
      standAt p'
      holding [v, ov, iv] (setItem ov iv v)
      release [v, ov, iv] []))
    (hs : swapsWithSole [.Subscript eo ei p'] ev pos.line X.env = pure false) (hw : swappedStores [.Subscript eo ei p'] ev X.env = pure none) :
    S1 G X E Γ W (.put o i v) (.Assign [.Subscript eo ei p'] ev pos) := by
  obtain ⟨to, po, qo⟩ := ho
  obtain ⟨ti, pi, qi⟩ := hi
  obtain ⟨tv, pv, qv⟩ := hv
  refine ⟨_, ps_asg pv (pg_sub po pi (set_or set_list (set_dict xo.u1)) ha) hs hw rfl, fun r s A H S D er R h => ?_⟩
  simp only [evS] at h
  refine qv r s A H S _ er R (h.bindE R fun d S1 A1 H1 u _ e1 R1 p1 h1 => ?_)
  have er1 := er.ext R e1
  refine qo r s A1 H1 S1 _ er1 R1 (h1.bindE R1 fun x S2 A2 H2 y _ e2 R2 p2 h2 => ?_)
  have er2 := er1.ext R1 e2
  refine qi r s A2 H2 S2 _ er2 R2 (h2.bindE R2 fun z S3 A3 H3 w _ e3 R3 p3 h3 => ?_)
  have p1' := (p1.ext R1 e2).ext R2 e3
  have p2' := p2.ext R2 e3
  have er3 := er2.ext R2 e3
  cases x with
  | ref m =>
    simp only [putD] at h3
    cases q : S3[m]? with
    | none => rw [q] at h3; exact h3.elim
    | some ob =>
      cases ob with
      | lst xs =>
        rw [q] at h3
        dsimp only at h3
        obtain ⟨b, us, rfl, h0, h4, h5⟩ := rep_lst R3 p2' q
        cases z with
        | int k =>
          dsimp only at h3
          cases q2 : ixN xs.length k with
          | none => rw [q2] at h3; exact h3.elim
          | some j =>
            rw [q2] at h3
            rw [rep_int p3]
            refine .inl ⟨b, us, k, j, rfl, rfl, h4, by rw [← h5.length]; exact q2, ?_⟩
            have x4 : Ext A3 H3 A3 (upd H3 b (.lst (us.set j u))) := ext_put h0
            exact h3 A3 _ s x4 (R3.put h0 ⟨us.set j u, upd_same, (h5.set p1' j).ext R3 x4⟩) (er3.ext R3 x4)
        | _ => exact h3.elim
      | dic kvs =>
        rw [q] at h3
        dsimp only at h3
        obtain ⟨b, us, rfl, h0, h4, h5, h6⟩ := rep_dic R3 p2' q
        cases q2 : keyOf z with
        | none => rw [q2] at h3; exact h3.elim
        | some k =>
          rw [q2] at h3
          dsimp only at h3
          by_cases hl : kvs.length < lim
          · rw [if_pos hl] at h3
            have hlen : kvs.length = us.length := by have := h6.length; simpa using this
            refine .inr ⟨b, _, rfl, by rw [kV_rep p3 q2]; exact DPut.k h4 (by rw [← hlen, ← lim_eq]; exact hl), ?_⟩
            obtain ⟨k1, k2⟩ := putK_rep (k := k) p1' h5 h6
            have x4 : Ext A3 H3 A3 (upd H3 b (.dK (putK us k u))) := ext_put h0
            exact h3 A3 _ s x4 (R3.put h0 ⟨putK us k u, upd_same, k1, k2.ext R3 x4⟩) (er3.ext R3 x4)
          · rw [if_neg hl] at h3; exact h3.elim
      | ins c fs => rw [q] at h3; exact h3.elim
  | _ => exact h3.elim
theorem s1_while {c : C} {ec : Expr} {b : K} {bs : List Stmt} (hp : PassesOwn (model X.prog X.w) X.A X.env X.xe) (hc : STb G X E Γ c ec) (hb : SS G X E Γ W b bs) : S1 G X E Γ W (.whl c b) (.While ec bs [] pos) := by
  obtain ⟨tc, pc, qc⟩ := hc
  obtain ⟨tb, pb, qb⟩ := hb
  refine ⟨_, ps_while hp pc pb, fun r s A H S D er R h => ?_⟩
  simp only [evS] at h
  refine ⟨fun m σ H' => ∃ A' ρ S', SRel G A' H' S' ∧ ERel G A' H' ρ σ ∧ FS G A' H' (whlL (evE Γ c) (evS Γ W b) m ρ S') D E, ⟨W, A, r, S, R, er, h⟩, ?_⟩
  rintro m σ H' ⟨A', ρ, S', R1, er1, f1⟩
  cases m with
  | zero => exact f1.elim
  | succ m =>
    simp only [whlL] at f1
    refine qc ρ σ A' H' S' _ er1 R1 (FS.tru R1 f1 fun k S2 A2 H2 e2 R2 h2 => ?_)
    have er2 := er1.ext R1 e2
    cases k with
    | true =>
      rw [if_pos rfl] at h2 ⊢
      refine ⟨fun σ' H'' => ∃ A'' ρ' S'', SRel G A'' H'' S'' ∧ ERel G A'' H'' ρ' σ' ∧ FS G A'' H'' (whlL (evE Γ c) (evS Γ W b) m ρ' S'') D E, fun σ' H'' ⟨A'', ρ', S'', z⟩ => ⟨m, by omega, A'', ρ', S'', z⟩, ?_⟩
      refine qb ρ σ A2 H2 S2 _ er2 R2 ?_
      cases qe : evS Γ W b ρ S2 with
      | bad => rw [qe] at h2; exact h2
      | exc c' S3 => rw [qe] at h2; exact h2
      | ok fl S3 =>
        rw [qe] at h2
        dsimp only [Res.bind] at h2
        cases fl with
        | nx ρ' => exact fun A3 H3 σ3 e3 R3 er3 => ⟨A3, ρ', S3, R3, er3, FS.mono R2 R3 e3 h2⟩
        | ct ρ' => exact fun A3 H3 σ3 e3 R3 er3 => ⟨A3, ρ', S3, R3, er3, FS.mono R2 R3 e3 h2⟩
        | rt d => exact h2
    | false =>
      rw [if_neg Bool.false_ne_true] at h2 ⊢
      exact h2 A2 H2 σ .refl R2 er2
/-- one turn of a for -/
def turnS (Γ : Cal) (W : Nat) (tg : Tg) (b : K) (v : D) (r : Env) (S : Store) : Res Fl :=
  match tg.set v r with
  | some r' => evS Γ W b r' S
  | none => .bad
theorem s1_for {tg : Tg} {it : It} {x : C} {b : K} {etg eiter : Expr} {bs : List Stmt} {sc : Scope} (xo : Xok G X n) (hp : PassesOwn (model X.prog X.w) X.A X.env X.xe) (cs : CanSet X sc) (htg : tg.ok X.N sc etg = true) (hi : SI G X E Γ it x etg eiter)
    (hb : SS G X E Γ W b bs) (hs : ∀ x, foldedSetIterable eiter X.env x = pure x) : S1 G X E Γ W (.for_ tg it x b) (.For etg eiter bs [] pos) := by
  obtain ⟨wi, pi, qi⟩ := hi
  obtain ⟨tb, pb, qb⟩ := hb
  refine ⟨_, ps_for hp xo.calm pi (pg_tg xo.calm xo.nd cs htg) pb hs, fun r s A H S D er R h => ?_⟩
  have h' : FS G A H ((evI Γ it x r S).bind fun src S => forL src (turnS Γ W tg b) (src.len S) 0 r S) D E := by
    simp only [evS] at h
    unfold evI
    cases q : evA Γ x r S with
    | bad => rw [q] at h; exact h
    | exc c S1 => rw [q] at h; exact h
    | ok ds S1 =>
      rw [q] at h
      dsimp only [Res.bind] at h ⊢
      cases q2 : srcOf it ds S1 with
      | none => rw [q2] at h; exact h
      | some src => rw [q2] at h; exact h
  refine qi r s A H S _ er R (h'.bindE R fun src S1 A1 H1 J _ e1 R1 hJ h1 => ?_)
  refine ⟨fun i m σ H' => ∃ A' ρ S', Ext A1 H1 A' H' ∧ SRel G A' H' S' ∧ ERel G A' H' ρ σ ∧ FS G A' H' (forL src (turnS Γ W tg b) m i ρ S') D E, ⟨_, A1, r, S1, .refl, R1, er.ext R e1, h1⟩, ?_⟩
  rintro i m σ H' ⟨A', ρ, S', x1, R', er', f1⟩
  obtain ⟨jstop, jgo⟩ := hJ i A' H' S' x1 R'
  cases q : src.at i S' with
  | none => cases m <;> (simp only [forL, q] at f1; exact f1.elim)
  | some o =>
    cases o with
    | none =>
      refine .inl ⟨jstop q, ?_⟩
      cases m <;> (simp only [forL, q] at f1; exact f1 A' H' σ .refl R' er')
    | some y =>
      cases m with
      | zero => simp only [forL, q] at f1; exact f1.elim
      | succ m =>
        simp only [forL, q] at f1
        obtain ⟨go, yld⟩ := jgo y q
        refine .inr ⟨go, fun σ' H'' => ∃ A'' ρ' S'', Ext A1 H1 A'' H'' ∧ SRel G A'' H'' S'' ∧ ERel G A'' H'' ρ' σ' ∧ FS G A'' H'' (forL src (turnS Γ W tg b) m (i + 1) ρ' S'') D E, fun σ' H'' ⟨A'', ρ', S'', z⟩ => ⟨m, by omega, A'', ρ', S'', z⟩, ?_⟩
        intro v H2 hy
        obtain ⟨x2, R2, p2⟩ := yld v H2 hy
        have er2 := er'.ext R' x2
        have x12 : Ext A1 H1 A' H2 := x1.trans R1 R' x2
        have f2 := FS.mono R' R2 x2 f1
        unfold turnS at f2
        rw [xo.K]
        cases q3 : tg.set y ρ with
        | none => rw [q3] at f2; exact f2.elim
        | some ρ2 =>
          rw [q3] at f2
          refine tg_ok p2 er2 q3 fun σ2 er3 _ => ?_
          refine qb ρ2 σ2 A' H2 S' _ er3 R2 ?_
          dsimp only at f2
          cases qe : evS Γ W b ρ2 S' with
          | bad => rw [qe] at f2; exact f2
          | exc c' S3 => rw [qe] at f2; exact f2
          | ok fl S3 =>
            rw [qe] at f2
            dsimp only [Res.bind] at f2
            cases fl with
            | nx ρ' => exact fun A3 H3 σ3 e3 R3 er4 => ⟨A3, ρ', S3, x12.trans R1 R2 e3, R3, er4, FS.mono R2 R3 e3 f2⟩
            | ct ρ' => exact fun A3 H3 σ3 e3 R3 er4 => ⟨A3, ρ', S3, x12.trans R1 R2 e3, R3, er4, FS.mono R2 R3 e3 f2⟩
            | rt d => exact f2
/-- raise X("..") -/
theorem s1_raise {c : Str} {C0 : Addr} {e : Expr} (hc : X.calm = true) (tk : Takes X (fun cls d _ H => E cls d H)) (hm : PMk X e (fun _ H Q => Q (.ref C0) none H)) (hg : G.mg c = some (.ref C0)) : S1 G X E Γ W (.rais c) (.Raise (some e) none pos) := by
  refine ⟨_, ps_raise hc tk hm, fun r s A H S D er R h => ?_⟩
  simp only [evS] at h
  exact h A H C0 .refl R hg
end
end MP

namespace MP
open PySem L2
/-- what the text's top binds -/
structure Tab where
  consts : List (Str × Int)
  free : List Str
  funs : List (Nat × Str × Nat)
  excs : List Str
def visB (sc : Scope) (x : Str) : Bool := match sc.names.lookup x with
  | some .local => true
  | some .cell => true
  | some .free => true
  | _ => false
def glB (sc : Scope) (x : Str) : Bool := decide (sc.names.lookup x = some .globalImplicit)
def okN (x : Str) : Bool := !(x == ("__debug__" : Str)) && !(x == ("__classdict__" : Str)) && !decide (x = ("__name__" : Str))
def freeB (T : Tab) (sc : Scope) (x : Str) : Bool := glB sc x && T.free.contains x && okN x
def plainE : Expr → Bool
  | .Starred _ _ => false
  | _ => true
def notSet : Expr → Bool
  | .Set _ _ _ => false
  | _ => true
def notSlice : Expr → Bool
  | .Slice _ _ _ _ => false
  | _ => true
def notComp : Expr → Bool
  | .ListComp _ _ _ _ => false
  | .SetComp _ _ _ _ => false
  | .DictComp _ _ _ _ _ => false
  | _ => true
def tstOk : Expr → Bool
  | .Compare _ _ _ _ => true
  | .BoolOp _ _ _ => true
  | .UnaryOp .Not _ _ => true
  | .Call _ _ _ _ => true
  | .Name _ _ => true
  | _ => false
def baseOk : Expr → Bool
  | .Name _ _ => true
  | .Attribute _ _ _ => true
  | .Subscript _ _ _ => true
  | _ => false
def isTuple : Expr → Bool
  | .Tuple _ _ _ => true
  | _ => false
def tyName : String → Option Str
  | "int" => some "int"
  | "bool" => some "bool"
  | "str" => some "str"
  | "tuple" => some "tuple"
  | "list" => some "list"
  | "dict" => some "dict"
  | _ => none
def Bf.name : Bf → Str
  | .len => "len" | .isi => "isinstance" | .all => "all" | .any => "any" | .sum => "sum" | .max2 => "max" | .min2 => "min" | .max1 => "max" | .min1 => "min"
  | .sorted => "sorted" | .list => "list" | .tuple => "tuple" | .repr => "repr" | .int => "int"
def Bm.name : Bm → Str
  | .append => "append" | .extend => "extend" | .get => "get" | .get2 => "get" | .index => "index" | .count => "count" | .pop => "pop" | .insert => "insert" | .remove => "remove" | .clear => "clear"
/-- methods that are served -/
def Bm.has : Bm → Bool
  | .append => true
  | .extend => true
  | _ => false
def ownOf (N : List Str) (tg : Tg) : List (Str × Nat) := tg.slots.map fun i => ((N[i]?).getD "", i)
mutual
def chkE (T : Tab) (N : List Str) : C → Scope → Expr → Bool
  | .var i, sc, e => match e with
    | .Name x _ => decide (N[i]? = some x) && visB sc x && okN x
    | _ => false
  | .val d, _, e => match d, e with
    | .int i, .Constant (.int j) _ _ => decide (i = j)
    | .bl i, .Constant (.bool j) _ _ => decide (i = j)
    | .str i, .Constant (.str j) _ _ => decide (i = j)
    | .non, .Constant .none _ _ => true
    | _, _ => false
  | .glo x d, sc, e => match d, e with
    | .int i, .Name y _ => decide (x = y) && glB sc x && decide (T.consts.lookup x = some i) && okN x
    | _, _ => false
  | .bty t, sc, e => match e with
    | .Name x _ => freeB T sc x && decide (tyName t = some x)
    | _ => false
  | .bin op a b, sc, e => match e with
    | .BinOp ea op' eb _ => decide (op = op') && chkE T N a sc ea && chkE T N b sc eb
    | _ => false
  | .neg a, sc, e => match e with
    | .UnaryOp .USub ea _ => chkE T N a sc ea
    | _ => false
  | .not a, sc, e => match e with
    | .UnaryOp .Not ea _ => chkE T N a sc ea && tstOk ea
    | _ => false
  | .and a b, sc, e => match e with
    | .BoolOp .And (x :: y :: rest) pos => chkE T N a sc x && tstOk x && (match rest with
      | [] => chkE T N b sc y && tstOk y
      | z :: rest => chkE T N b sc (.BoolOp .And (y :: z :: rest) pos))
    | _ => false
  | .or a b, sc, e => match e with
    | .BoolOp .Or (x :: y :: rest) pos => chkE T N a sc x && tstOk x && (match rest with
      | [] => chkE T N b sc y && tstOk y
      | z :: rest => chkE T N b sc (.BoolOp .Or (y :: z :: rest) pos))
    | _ => false
  | .cmp op a b, sc, e => match e with
    | .Compare ea [op'] [eb] _ => decide (op = op') && chkE T N a sc ea && chkE T N b sc eb && notSet eb
    | _ => false
  | .cmp2 op op2 a b c, sc, e => match e with
    | .Compare ea [op', op2'] [eb, ec] _ => decide (op = op') && decide (op2 = op2') && chkE T N a sc ea && chkE T N b sc eb && chkE T N c sc ec && notSet ec
    | _ => false
  | .ite t a b, sc, e => match e with
    | .IfExp et ea eb _ => chkE T N t sc et && tstOk et && chkE T N a sc ea && chkE T N b sc eb
    | _ => false
  | .tup as, sc, e => match e with
    | .Tuple es _ _ => chkA T N as sc es && decide (as.len ≤ 1000)
    | _ => false
  | .lst as, sc, e => match e with
    | .List es _ => chkA T N as sc es && decide (as.len ≤ 1000)
    | _ => false
  | .dct ks as, sc, e => match e with
    | .Dict keys values _ => pairsOk ks keys && chkA T N as sc values && decide (keys.length = values.length) && decide (keys.length ≤ 15) && decide ks.Nodup
    | _ => false
  | .call f as, sc, e => match e with
    | .Call (.Name x _) es [] _ => decide (T.funs.lookup f = some (x, es.length)) && glB sc x && okN x && chkA T N as sc es
    | _ => false
  | .blt f as, sc, e => match e with
    | .Call (.Name x _) es [] _ => decide (x = f.name) && freeB T sc x && chkA T N as sc es && decide (es ≠ [])
    | _ => false
  | .mth m o as, sc, e => match e with
    | .Call (.Attribute eo name apos) es [] cpos => decide (name = m.name) && m.has && chkE T N o sc eo && baseOk eo && chkA T N as sc es && decide (es ≠ []) && decide (es.length < 20) && (apos.endLine == cpos.line)
    | _ => false
  | .omth _ _ _ _, _, _ => false
  | .make _ _ _, _, _ => false
  | .idx a b, sc, e => match e with
    | .Subscript ea eb _ => chkE T N a sc ea && chkE T N b sc eb && notSlice eb
    | _ => false
  | .slc a lo hi, sc, e => match e with
    | .Subscript ea (.Slice el eh none _) _ => chkE T N a sc ea && (match el with
        | none => lo.isNo
        | some e => !lo.isNo && chkE T N lo sc e) && (match eh with
        | none => hi.isNo
        | some e => !hi.isNo && chkE T N hi sc e)
    | _ => false
  | .rev a, sc, e => match e with
    | .Subscript ea (.Slice none none (some (.UnaryOp .USub (.Constant (.int 1) _ _) _)) _) _ => chkE T N a sc ea
    | _ => false
  | .fld _ _ _, _, _ => false
  | .lc tg it x cond elt, sc, e => match e with
    | .ListComp eelt [⟨etg, eiter, ifs, as⟩] scope _ => decide (as = 0) && (match it with
        | .seq => chkA T N x sc [eiter]
        | .rng => (match eiter with
          | .Call (.Name y _) es [] _ => decide (y = "range") && freeB T sc y && chkA T N x sc es && (decide (es.length = 1) || decide (es.length = 2))
          | _ => false)
        | .enu => (match eiter with
          | .Call (.Name y _) es [] _ => decide (y = "enumerate") && freeB T sc y && chkA T N x sc es && decide (es.length = 1) && isTuple etg
          | _ => false)
        | .zip => (match eiter with
          | .Call (.Name y _) es [] _ => decide (y = "zip") && freeB T sc y && chkA T N x sc es && decide (es.length = 2) && isTuple etg
          | _ => false)) && blkC N sc scope (ownOf N tg) && tg.ok N scope etg && notSet eiter && (match ifs with
        | [] => cond.isNo
        | [c] => !cond.isNo && chkE T N cond (relS scope sc) c && tstOk c
        | _ => false) && chkE T N elt (relS scope sc) eelt
    | _ => false
  | .nil, _, _ => false
  | .cons _ _, _, _ => false
  | .no, _, _ => false
def chkA (T : Tab) (N : List Str) : C → Scope → List Expr → Bool
  | .nil, _, es => match es with
    | [] => true
    | _ => false
  | .cons a as, sc, es => match es with
    | e :: es => plainE e && chkE T N a sc e && chkA T N as sc es
    | _ => false
  | _, _, _ => false
end
/-- where a body runs, and what it may call -/
structure Wok (G : Gx) (T : Tab) (X : Cx) (E : XK) (Γ : Cal) (n : Nat) : Prop where
  xo : Xok G X n
  sm : SmOk X.base
  pass : Passes (L2.CX X.prog X.w) X E
  consts : ∀ x i, T.consts.lookup x = some i → ∃ t, X.mg x = some (.int i t)
  free : ∀ x, T.free.contains x = true → X.mg x = none
  funs : ∀ f x m, T.funs.lookup f = some (x, m) → ∃ a fd ps, X.mg x = some (.ref a) ∧ PySem.W.keepIn X.K (.ref a) = true ∧ Binds X.K fd ps [] ∧ FnG X.prog X.w X.K X.mg X.base n a fd ps (spF G Γ f m)
section
variable {G : Gx} {T : Tab} {X : Cx} {E : XK} {Γ : Cal} {n : Nat}
theorem Wok.blk (w : Wok G T X E Γ n) (scope : Scope) (p : BlkIx) : Wok G T (blkOf X scope p) E0' Γ n :=
  ⟨⟨w.xo.K, w.xo.mg, w.xo.calm, w.xo.nd, w.xo.room, w.xo.gd⟩, w.sm, passL, w.consts, w.free, w.funs⟩
theorem vis_of {sc : Scope} {x : Str} (h : visB sc x = true) : Vis sc x := by
  unfold visB at h
  split at h
  · exact .inl (by assumption)
  · exact .inr (.inl (by assumption))
  · exact .inr (.inr (by assumption))
  · cases h
theorem okN_of {x : Str} (h : okN x = true) : (x == ("__debug__" : Str)) = false ∧ (x == ("__classdict__" : Str)) = false ∧ x ≠ ("__name__" : Str) := by
  unfold okN at h
  simp only [Bool.and_eq_true, Bool.not_eq_true', decide_eq_false_iff_not] at h
  exact ⟨h.1.1, h.1.2, h.2⟩
theorem free_of {sc : Scope} {x : Str} (w : Wok G T X E Γ n) (hs : X.env.scope = sc) (h : freeB T sc x = true) : Gl X x ∧ X.mg x = none ∧ (x == ("__debug__" : Str)) = false ∧ x ≠ ("__name__" : Str) := by
  unfold freeB glB at h
  simp only [Bool.and_eq_true, decide_eq_true_eq] at h
  obtain ⟨o1, o2, o3⟩ := okN_of h.2
  exact ⟨by show X.env.scope.names.lookup x = _; rw [hs]; exact h.1.1, w.free x h.1.2, o1, o3⟩
theorem plain_star {e : Expr} (h : plainE e = true) (r : List Expr) (env : PySem.Env) : starEach (e :: r) env = (false, eval e env) :: starEach r env := by
  cases e <;> first | rfl | (simp [plainE] at h)
theorem chkA_plain : ∀ {c : C} {N : List Str} {sc : Scope} {es : List Expr}, chkA T N c sc es = true → ∀ e ∈ es, plainE e = true := by
  intro c
  induction c with
  | nil =>
    intro N sc es h e he
    cases es with
    | nil => cases he
    | cons => simp [chkA] at h
  | cons a as _ ih =>
    intro N sc es h e he
    cases es with
    | nil => cases he
    | cons e' es =>
      simp only [chkA, Bool.and_eq_true] at h
      rcases List.mem_cons.mp he with rfl | he
      · exact h.1.1
      · exact ih h.2 e he
  | _ => intro N sc es h; simp [chkA] at h
theorem chkA_len : ∀ {c : C} {N : List Str} {sc : Scope} {es : List Expr}, chkA T N c sc es = true → c.len = es.length := by
  intro c
  induction c with
  | nil =>
    intro N sc es h
    cases es with
    | nil => rfl
    | cons => simp [chkA] at h
  | cons a as _ ih =>
    intro N sc es h
    cases es with
    | nil => simp [chkA] at h
    | cons e' es =>
      simp only [chkA, Bool.and_eq_true] at h
      simp [C.len, ih h.2]
  | _ => intro N sc es h; simp [chkA] at h
theorem plain_any {es : List Expr} {env : PySem.Env} {pos : Pos} (h : ∀ e ∈ es, plainE e = true) : (backTo pos (starEach es env)).any (·.1) = false := star_plain fun e he r => plain_star (h e he) r env
theorem boot_ty {t : String} {x : Str} (h : tyName t = some x) : bootBuiltins x = some (.type t) := by
  unfold tyName at h
  split at h <;> first | (cases h; decide +kernel) | cases h
theorem notSet_marks {op : CmpOp} {e : Expr} (h : notSet e = true) : behindInMarks op e = false := by
  cases e <;> first | rfl | (simp [notSet] at h)
theorem notSlice_ix {e : Expr} (h : notSlice e = true) : PlainIx e := by
  intro o i
  cases e <;> first | rfl | (simp [notSlice] at h)
theorem notSet_fold {e : Expr} (h : notSet e = true) (env : PySem.Env) : ∀ x, foldedSetIterable e env x = pure x := by
  intro x
  cases e <;> first | rfl | (simp [notSet] at h)
theorem tst_plain {e : Expr} (env : PySem.Env) (h : (∃ x p, e = .Name x p) ∨ ∃ f a k p, e = .Call f a k p) : ∀ whole, isTrue e env whole = (do let v ← whole; standAt e.pos; holding [v] (truthy v)) := by
  intro whole
  rcases h with ⟨x, p, rfl⟩ | ⟨f, a, k, p, rfl⟩ <;> rfl
theorem ownOf_slots {N : List Str} {tg : Tg} : (ownOf N tg).map (·.2) = tg.slots := by
  unfold ownOf
  rw [List.map_map]
  exact List.map_id _
/-- every built-in function -/
theorem blt_se {f : Bf} {x : Str} {as : C} {e : Expr} {es : List Expr} {p pos : Pos} (w : Wok G T X E Γ n) (hx : x = f.name) (hg : Gl X x) (hm : X.mg x = none) (hd : (x == ("__debug__" : Str)) = false) (hn : x ≠ ("__name__" : Str)) (hs : SA G X E Γ as (e :: es))
    (he : starEach (e :: es) X.env = (false, eval e X.env) :: starEach es X.env) (hpl : (backTo pos (starEach es X.env)).any (·.1) = false) : SE G X E Γ (.blt f as) (.Call (.Name x p) (e :: es) [] pos) := by
  subst hx
  cases f with
  | len => obtain ⟨r, h1, h2⟩ := blt_len w.xo; exact se_bltB h1 h2 hg hm (by decide +kernel) hn hd hs he hpl
  | isi => obtain ⟨r, h1, h2⟩ := blt_isi w.xo; exact se_bltB h1 h2 hg hm (by decide +kernel) hn hd hs he hpl
  | all => obtain ⟨r, h1, h2⟩ := blt_all w.xo; exact se_bltB h1 h2 hg hm (by decide +kernel) hn hd hs he hpl
  | any => obtain ⟨r, h1, h2⟩ := blt_any w.xo; exact se_bltB h1 h2 hg hm (by decide +kernel) hn hd hs he hpl
  | sum => obtain ⟨r, h1, h2⟩ := blt_sum w.xo; exact se_bltB h1 h2 hg hm (by decide +kernel) hn hd hs he hpl
  | max2 => obtain ⟨r, h1, h2⟩ := blt_max2 w.xo; exact se_bltB h1 h2 hg hm (by decide +kernel) hn hd hs he hpl
  | min2 => obtain ⟨r, h1, h2⟩ := blt_min2 w.xo; exact se_bltB h1 h2 hg hm (by decide +kernel) hn hd hs he hpl
  | max1 => obtain ⟨r, h1, h2⟩ := blt_max1 w.xo; exact se_bltB h1 h2 hg hm (by decide +kernel) hn hd hs he hpl
  | min1 => obtain ⟨r, h1, h2⟩ := blt_min1 w.xo; exact se_bltB h1 h2 hg hm (by decide +kernel) hn hd hs he hpl
  | sorted => obtain ⟨r, h1, h2⟩ := blt_sorted w.xo w.sm; exact se_bltB h1 h2 hg hm (by decide +kernel) hn hd hs he hpl
  | repr => obtain ⟨r, h1, h2⟩ := blt_repr w.xo w.sm; exact se_bltB h1 h2 hg hm (by decide +kernel) hn hd hs he hpl
  | list => obtain ⟨r, h1, h2⟩ := blt_list w.xo; exact se_bltT h1 h2 hg hm (by decide +kernel) hn hd hs he hpl
  | tuple => obtain ⟨r, h1, h2⟩ := blt_tuple w.xo; exact se_bltT h1 h2 hg hm (by decide +kernel) hn hd hs he hpl
  | int => obtain ⟨r, h1, h2⟩ := blt_int w.xo; exact se_bltT h1 h2 hg hm (by decide +kernel) hn hd hs he hpl
end
end MP

namespace MP
open PySem L2
def isBO : Expr → Bool
  | .BoolOp _ _ _ => true
  | _ => false
def Tri (G : Gx) (X : Cx) (E : XK) (Γ : Cal) (c : C) (e : Expr) : Prop := SE G X E Γ c e ∧ (tstOk e = true → STb G X E Γ c e) ∧ (isBO e = true → SWb G X E Γ c e)
def Good (T : Tab) (N : List Str) (c : C) : Prop := ∀ (G : Gx) (X : Cx) (E : XK) (Γ : Cal) (n : Nat) (sc : Scope) (e : Expr), Wok G T X E Γ n → X.N = N → X.env.scope = sc → chkE T N c sc e = true → Tri G X E Γ c e
def GoodA (T : Tab) (N : List Str) (c : C) : Prop := ∀ (G : Gx) (X : Cx) (E : XK) (Γ : Cal) (n : Nat) (sc : Scope) (es : List Expr), Wok G T X E Γ n → X.N = N → X.env.scope = sc → chkA T N c sc es = true → SA G X E Γ c es
def Els (T : Tab) (N : List Str) : C → Prop
  | .cons a as => Good T N a ∧ Els T N as
  | _ => True
def Go (T : Tab) (N : List Str) (c : C) : Prop := Good T N c ∧ GoodA T N c ∧ Els T N c
def chkI (T : Tab) (N : List Str) (it : It) (x : C) (sc : Scope) (etg eiter : Expr) : Bool :=
  match it with
  | .seq => chkA T N x sc [eiter]
  | .rng => (match eiter with
    | .Call (.Name y _) es [] _ => decide (y = "range") && freeB T sc y && chkA T N x sc es && (decide (es.length = 1) || decide (es.length = 2))
    | _ => false)
  | .enu => (match eiter with
    | .Call (.Name y _) es [] _ => decide (y = "enumerate") && freeB T sc y && chkA T N x sc es && decide (es.length = 1) && isTuple etg
    | _ => false)
  | .zip => (match eiter with
    | .Call (.Name y _) es [] _ => decide (y = "zip") && freeB T sc y && chkA T N x sc es && decide (es.length = 2) && isTuple etg
    | _ => false)
section
variable {G : Gx} {T : Tab} {X : Cx} {E : XK} {Γ : Cal} {n : Nat} {N : List Str} {sc : Scope}
theorem tri_plain {c : C} {e : Expr} (h : SE G X E Γ c e) (hb : isBO e = false) (ht : tstOk e = true → (∃ x p, e = .Name x p) ∨ ∃ f a k p, e = .Call f a k p) : Tri G X E Γ c e :=
  ⟨h, fun t => stb_val h (tst_plain X.env (ht t)), fun t => by rw [hb] at t; cases t⟩
theorem tri_no {c : C} {e : Expr} (h : SE G X E Γ c e) (ht : tstOk e = false) (hb : isBO e = false) : Tri G X E Γ c e :=
  ⟨h, fun t => by (rw [ht] at t; cases t), fun t => by (rw [hb] at t; cases t)⟩
theorem tri_name {c : C} {x : Str} {p : Pos} (h : SE G X E Γ c (.Name x p)) : Tri G X E Γ c (.Name x p) := tri_plain h rfl fun _ => .inl ⟨x, p, rfl⟩
theorem tri_call {c : C} {f : Expr} {a : List Expr} {k : List Keyword} {p : Pos} (h : SE G X E Γ c (.Call f a k p)) : Tri G X E Γ c (.Call f a k p) := tri_plain h rfl fun _ => .inr ⟨f, a, k, p, rfl⟩
theorem tri_st {c : C} {e : Expr} (h : SE G X E Γ c e) (hs : STb G X E Γ c e) (hb : isBO e = false) : Tri G X E Γ c e := ⟨h, fun _ => hs, fun t => by (rw [hb] at t; cases t)⟩
theorem len_two {α : Type} {l : List α} (h : l.length = 2) : ∃ a b, l = [a, b] := by
  match l, h with
  | [a, b], _ => exact ⟨a, b, rfl⟩
theorem star1 {e : Expr} (h : plainE e = true) : starEach [e] X.env = [(false, eval e X.env)] := plain_star h [] X.env
theorem star2 {e e' : Expr} (h : plainE e = true) (h' : plainE e' = true) : starEach [e, e'] X.env = [(false, eval e X.env), (false, eval e' X.env)] := by
  rw [plain_star h, star1 h']
theorem chkA1 {x : C} {e : Expr} (h : chkA T N x sc [e] = true) : ∃ a, x = .cons a .nil ∧ plainE e = true ∧ chkE T N a sc e = true := by
  cases x <;> simp only [chkA, Bool.and_eq_true, Bool.false_eq_true] at h
  rename_i a as
  cases as <;> simp only [chkA, Bool.and_eq_true, Bool.false_eq_true, and_false] at h
  exact ⟨a, rfl, h.1.1, h.1.2⟩
theorem chkA2 {x : C} {e e' : Expr} (h : chkA T N x sc [e, e'] = true) : ∃ a b, x = .cons a (.cons b .nil) ∧ plainE e = true ∧ plainE e' = true := by
  cases x <;> simp only [chkA, Bool.and_eq_true, Bool.false_eq_true] at h
  rename_i a as
  cases as <;> simp only [chkA, Bool.and_eq_true, Bool.false_eq_true, and_false] at h
  rename_i b bs
  cases bs <;> simp only [chkA, Bool.and_eq_true, Bool.false_eq_true, and_false] at h
  exact ⟨a, b, rfl, h.1.1, h.2.1.1⟩
theorem si_of {it : It} {x : C} {etg eiter : Expr} (gx : Go T N x) (w : Wok G T X E Γ n) (hN : X.N = N) (hs : X.env.scope = sc) (h : chkI T N it x sc etg eiter = true) : SI G X E Γ it x etg eiter := by
  cases it with
  | seq =>
    obtain ⟨a, rfl, h1, h2⟩ := chkA1 h
    exact si_seq w.xo (gx.2.2.1 G X E Γ n sc _ w hN hs h2).1
  | rng =>
    simp only [chkI] at h
    split at h
    · rename_i y p es pos
      simp only [Bool.and_eq_true, Bool.or_eq_true, decide_eq_true_eq] at h
      obtain ⟨⟨⟨rfl, hf⟩, ha⟩, hl⟩ := h
      obtain ⟨f1, f2, f3, f4⟩ := free_of w hs hf
      have sa := gx.2.1 G X E Γ n sc _ w hN hs ha
      rcases hl with hl | hl
      · obtain ⟨e, rfl⟩ := List.length_eq_one_iff.mp hl
        obtain ⟨a, rfl, h1, h2⟩ := chkA1 ha
        exact si_rng1 f1 f2 (star1 h1) sa
      · obtain ⟨e, e', rfl⟩ := len_two hl
        obtain ⟨a, b, rfl, h1, h2⟩ := chkA2 ha
        exact si_rng2 f1 f2 (star2 h1 h2) (star1 h2) sa
    · cases h
  | enu =>
    simp only [chkI] at h
    split at h
    · rename_i y p es pos
      simp only [Bool.and_eq_true, decide_eq_true_eq] at h
      obtain ⟨⟨⟨⟨rfl, hf⟩, ha⟩, hl⟩, ht⟩ := h
      obtain ⟨f1, f2, f3, f4⟩ := free_of w hs hf
      have sa := gx.2.1 G X E Γ n sc _ w hN hs ha
      obtain ⟨e, rfl⟩ := List.length_eq_one_iff.mp hl
      obtain ⟨a, rfl, h1, h2⟩ := chkA1 ha
      cases etg <;> simp only [isTuple, Bool.false_eq_true] at ht
      exact si_enu w.xo f1 f2 (star1 h1) sa
    · cases h
  | zip =>
    simp only [chkI] at h
    split at h
    · rename_i y p es pos
      simp only [Bool.and_eq_true, decide_eq_true_eq] at h
      obtain ⟨⟨⟨⟨rfl, hf⟩, ha⟩, hl⟩, ht⟩ := h
      obtain ⟨f1, f2, f3, f4⟩ := free_of w hs hf
      have sa := gx.2.1 G X E Γ n sc _ w hN hs ha
      obtain ⟨e, e', rfl⟩ := len_two hl
      obtain ⟨a, b, rfl, h1, h2⟩ := chkA2 ha
      cases etg <;> simp only [isTuple, Bool.false_eq_true] at ht
      exact si_zip w.xo f1 f2 (star2 h1 h2) (star1 h2) sa
    · cases h
theorem gaNo {c : C} (h : ∀ sc es, chkA T N c sc es = false) : GoodA T N c := fun G X E Γ n sc es _ _ _ hc => by rw [h] at hc; cases hc
theorem gNo {c : C} (h : ∀ sc e, chkE T N c sc e = false) : Good T N c := fun G X E Γ n sc es _ _ _ hc => by rw [h] at hc; cases hc
theorem go_of {c : C} (h : Good T N c) (h1 : ∀ sc es, chkA T N c sc es = false) (h2 : Els T N c) : Go T N c := ⟨h, gaNo h1, h2⟩
theorem sb_of {c : C} {el : Option Expr} (g : Good T N c) (w : Wok G T X E Γ n) (hN : X.N = N) (hs : X.env.scope = sc) (h : (match el with | none => c.isNo | some e => !c.isNo && chkE T N c sc e) = true) : SB G X E Γ c el := by
  cases el with
  | none =>
    dsimp only at h
    cases c <;> simp only [C.isNo, Bool.false_eq_true] at h
    exact sb_none
  | some e =>
    simp only [Bool.and_eq_true, Bool.not_eq_true'] at h
    exact sb_some h.1 (g G X E Γ n sc e w hN hs h.2).1
theorem sndb_yes : SndB G E0' Γ .no tYes := fun r s A H S Q er R h => by
  simp only [evE] at h
  exact h.here R
theorem ifs_of {c : C} {ifs : List Expr} {scope : Scope} (g : Good T N c) (w : Wok G T X E Γ n) (hN : X.N = N) (hs : X.env.scope = sc)
    (h : (match ifs with | [] => c.isNo | [e] => !c.isNo && chkE T N c (relS scope sc) e && tstOk e | _ => false) = true) (p : BlkIx) : ∃ t, PTs (blkOf X scope p) ifs t ∧ SndB G E0' Γ c t := by
  cases ifs with
  | nil =>
    dsimp only at h
    cases c <;> simp only [C.isNo, Bool.false_eq_true] at h
    exact ⟨_, pts_nil, sndb_yes⟩
  | cons e es =>
    cases es with
    | cons => cases h
    | nil =>
      simp only [Bool.and_eq_true, Bool.not_eq_true'] at h
      obtain ⟨t, p1, p2⟩ := (g G (blkOf X scope p) E0' Γ n (relS scope sc) e (w.blk scope p) hN (by show relS scope X.env.scope = _; rw [hs]) h.1.2).2.1 h.2
      exact ⟨t, pts_one p1, p2⟩
/-- the parts of a comprehension -/
structure LcOk (T : Tab) (N : List Str) (tg : Tg) (it : It) (x cond elt : C) (sc : Scope) (eelt etg eiter : Expr) (ifs : List Expr) (scope : Scope) : Prop where
  iter : chkI T N it x sc etg eiter = true
  blk : blkC N sc scope (ownOf N tg) = true
  tg : tg.ok N scope etg = true
  set : notSet eiter = true
  ifs : (match ifs with | [] => cond.isNo | [e] => !cond.isNo && chkE T N cond (relS scope sc) e && tstOk e | _ => false) = true
  elt : chkE T N elt (relS scope sc) eelt = true
theorem lc_parts {tg : Tg} {it : It} {x cond elt : C} {e : Expr} (h : chkE T N (.lc tg it x cond elt) sc e = true) :
    ∃ eelt etg eiter ifs scope pos, e = .ListComp eelt [⟨etg, eiter, ifs, 0⟩] scope pos ∧ LcOk T N tg it x cond elt sc eelt etg eiter ifs scope := by
  simp only [chkE] at h
  split at h
  · rename_i eelt etg eiter ifs as scope pos
    simp only [Bool.and_eq_true, decide_eq_true_eq] at h
    obtain ⟨⟨⟨⟨⟨⟨rfl, h1⟩, h2⟩, h3⟩, h4⟩, h5⟩, h6⟩ := h
    exact ⟨eelt, etg, eiter, ifs, scope, pos, rfl, h1, h2, h3, h4, h5, h6⟩
  · cases h
theorem LcOk.elt_of {tg : Tg} {it : It} {x cond elt : C} {eelt etg eiter : Expr} {ifs : List Expr} {scope : Scope} (h : LcOk T N tg it x cond elt sc eelt etg eiter ifs scope) (g : Good T N elt) (w : Wok G T X E Γ n) (hN : X.N = N) (hs : X.env.scope = sc) (p : BlkIx) : SE G (blkOf X scope p) E0' Γ elt eelt :=
  (g G (blkOf X scope p) E0' Γ n (relS scope sc) eelt (w.blk scope p) hN (by show relS scope X.env.scope = _; rw [hs]) h.elt).1
theorem baseOk_eq {e : Expr} {name : Str} (h : baseOk e = true) : attributeBase e name X.env (eval e X.env) = eval e X.env := by
  cases e <;> first | rfl | (simp [baseOk] at h)
theorem all_plain {es : List Expr} {env : PySem.Env} {pos : Pos} (h : ∀ e ∈ es, plainE e = true) : (backTo pos (starEach es env)).all (fun x => !x.1) = true := by
  induction es with
  | nil => rfl
  | cons e es ih =>
    rw [plain_star (h e List.mem_cons_self)]
    show ((!false) && (backTo pos (starEach es env)).all fun x => !x.1) = true
    rw [ih fun e' he => h e' (List.mem_cons_of_mem _ he)]
    rfl
theorem few_plain {es : List Expr} {env : PySem.Env} {cpos : Pos} (h : ∀ e ∈ es, plainE e = true) (hl : es.length < 20) : ((backTo cpos (starEach es env)).all (fun x => !x.1) && (backToKw cpos (keywordEach [] env)).all (fun x => x.1.isSome)
      && decide (es.length + ([] : List Keyword).length + (if ([] : List Keyword).isEmpty then 0 else 1) < 30)) = true := by
  rw [all_plain h]
  simp only [Bool.true_and, Bool.and_eq_true]
  exact ⟨rfl, by simp; omega⟩
theorem sps_of : ∀ {ks : List Key} {as : C} {keys : List (Option Expr)} {values : List Expr} {pos : Pos}, Els T N as → Wok G T X E Γ n → X.N = N → X.env.scope = sc → pairsOk ks keys = true → chkA T N as sc values = true → keys.length = values.length → SPs G X E Γ ks as pos keys values := by
  intro ks as
  induction as generalizing ks with
  | nil =>
    intro keys values pos g w hN hs hp hc hl
    cases values with
    | cons => simp [chkA] at hc
    | nil =>
      cases keys with
      | cons => simp at hl
      | nil =>
        cases ks with
        | nil => exact sps_nil
        | cons k ks => cases k <;> simp [pairsOk] at hp
  | cons a as _ ih =>
    intro keys values pos g w hN hs hp hc hl
    cases values with
    | nil => simp [chkA] at hc
    | cons v values =>
      simp only [chkA, Bool.and_eq_true] at hc
      cases keys with
      | nil => simp at hl
      | cons k keys =>
        unfold pairsOk at hp
        split at hp
        · rename_i e1 e2; cases e2
        · rename_i i ks' j q1 q2 es' e2
          cases e2
          simp only [Bool.and_eq_true, decide_eq_true_eq] at hp
          obtain ⟨rfl, hp⟩ := hp
          exact sps_cons (k := .inl i) pe_int (g.1 G X E Γ n sc v w hN hs hc.1.2).1 (ih g.2 w hN hs hp hc.2 (by simpa using hl))
        · rename_i i ks' j q1 q2 es' e2
          cases e2
          simp only [Bool.and_eq_true, decide_eq_true_eq] at hp
          obtain ⟨rfl, hp⟩ := hp
          exact sps_cons (k := .inr i) pe_str (g.1 G X E Γ n sc v w hN hs hc.1.2).1 (ih g.2 w hN hs hp hc.2 (by simpa using hl))
        · cases hp
  | _ => intro keys values pos g w hN hs hp hc hl; simp [chkA] at hc
theorem pairs_all : ∀ {ks : List Key} {keys : List (Option Expr)}, pairsOk ks keys = true → keys.all (·.isSome) = true ∧ ks.length = keys.length := by
  intro ks
  induction ks with
  | nil => intro keys h; cases keys with
    | nil => exact ⟨rfl, rfl⟩
    | cons => simp [pairsOk] at h
  | cons k ks ih =>
    intro keys h
    unfold pairsOk at h
    split at h
    · rename_i e; cases e
    · rename_i e; cases e
      simp only [Bool.and_eq_true] at h
      obtain ⟨z1, z2⟩ := ih h.2
      exact ⟨by simpa using z1, by simpa using z2⟩
    · rename_i e; cases e
      simp only [Bool.and_eq_true] at h
      obtain ⟨z1, z2⟩ := ih h.2
      exact ⟨by simpa using z1, by simpa using z2⟩
    · cases h
end
end MP

namespace MP
open PySem L2
section
variable {G : Gx} {T : Tab} {X : Cx} {E : XK} {Γ : Cal} {n : Nat} {N : List Str} {sc : Scope}
theorem spF_len {f m : Nat} : ∀ vs H Q E, spF G Γ f m vs H Q E → vs.length = m := fun vs H Q E h => h.1
/-- a call of a def -/
theorem se_call {f : Nat} {x : Str} {p pos : Pos} {as : C} {es : List Expr} (w : Wok G T X E Γ n) (hN : X.N = N) (hs : X.env.scope = sc) (hf : T.funs.lookup f = some (x, es.length)) (hg : glB sc x = true) (ho : okN x = true) (g : GoodA T N as) (ha : chkA T N as sc es = true) :
    SE G X E Γ (.call f as) (.Call (.Name x p) es [] pos) := by
  obtain ⟨a, fd, ps, h1, h2, h3, F⟩ := w.funs f x _ hf
  have gl : Gl X x := by
    show X.env.scope.names.lookup x = _
    rw [hs]
    exact of_decide_eq_true hg
  obtain ⟨o1, o2, o3⟩ := okN_of ho
  have pl := chkA_plain ha
  obtain ⟨t, pt, q⟩ := g G X E Γ n sc es w hN hs ha
  have snd : ∀ r s A H S Q, ERel G A H r s → SRel G A H S → FinE G A H (evE Γ (.call f as) r S) Q E → tCl (spF G Γ f es.length) E t s H Q := by
    intro r s A H S Q er R h
    simp only [evE] at h
    refine q r s A H S _ er R (h.bind R fun ds S1 A1 H1 vs e0 e1 R1 p1 h1 => ?_)
    refine ⟨?_, A1, S1, ds, R1, p1, h1⟩
    rw [← p1.length, evA_len _ _ _ _ _ e0, chkA_len ha]
  cases es with
  | nil =>
    have e0 : as = .nil := by cases as <;> simp [chkA] at ha <;> rfl
    subst e0
    refine ⟨_, pe_cl0G F w.xo.room w.xo.gd gl h1 h2 h3 w.pass o1, fun r s A H S Q er R h => ?_⟩
    simp only [evE, evA] at h
    exact ⟨rfl, A, S, [], R, .nil, h⟩
  | cons e es =>
    exact ⟨_, pe_clG F w.xo.room w.xo.gd gl h1 h2 h3 w.pass pt o1 (plain_star (pl e List.mem_cons_self) es X.env) (plain_any fun e' he => pl e' (List.mem_cons_of_mem _ he)), snd⟩
theorem se_mt {m : Bm} {a as : C} {ea e : Expr} {es : List Expr} {name : Str} {apos cpos : Pos} (w : Wok G T X E Γ n) (hm : m.has = true) (hn : name = m.name) (ha : SE G X E Γ a ea) (hs : SA G X E Γ as (e :: es)) (hbase : attributeBase ea name X.env (eval ea X.env) = eval ea X.env)
    (hfew : ((backTo cpos (starEach (e :: es) X.env)).all (fun x => !x.1) && (backToKw cpos (keywordEach [] X.env)).all (fun x => x.1.isSome)
      && decide ((e :: es).length + ([] : List Keyword).length + (if ([] : List Keyword).isEmpty then 0 else 1) < 30)) = true)
    (hline : (apos.endLine == cpos.line) = true) (hst : starEach (e :: es) X.env = (false, eval e X.env) :: starEach es X.env) (hpl : (backTo cpos (starEach es X.env)).any (·.1) = false) :
    SE G X E Γ (.mth m a as) (.Call (.Attribute ea name apos) (e :: es) [] cpos) := by
  subst hn
  cases m <;> simp only [Bm.has, Bool.false_eq_true] at hm
  · obtain ⟨r, h1, h2⟩ := mth_append (X := X) (G := G)
    exact se_mth w.xo rfl F.plainAttrs_list F.slot_list_append F.type_list_append h1 h2 ha hs hbase hfew hline hst hpl
  · obtain ⟨r, h1, h2⟩ := mth_extend (X := X) (G := G)
    exact se_mth w.xo rfl F.plainAttrs_list F.slot_list_extend F.type_list_extend h1 h2 ha hs hbase hfew hline hst hpl
theorem isBO_false {e : Expr} (h : tstOk e = false) : isBO e = false := by
  cases e <;> first | rfl | (simp [tstOk] at h)

theorem go_all (T : Tab) (N : List Str) : ∀ c : C, Go T N c := by
  intro c
  induction c with
  | var i =>
    refine go_of (fun G X E Γ n sc e w hN hs h => ?_) (fun _ _ => rfl) trivial
    simp only [chkE] at h
    split at h
    · simp only [Bool.and_eq_true, decide_eq_true_eq] at h
      obtain ⟨o1, o2, o3⟩ := okN_of h.2
      exact tri_name (se_var (by rw [hN]; exact h.1.1) (by rw [hs]; exact vis_of h.1.2) o1 o2)
    · cases h
  | val d =>
    refine go_of (fun G X E Γ n sc e w hN hs h => ?_) (fun _ _ => rfl) trivial
    simp only [chkE] at h
    split at h
    · rw [of_decide_eq_true h]; exact tri_no se_int rfl rfl
    · rw [of_decide_eq_true h]; exact tri_no se_bl rfl rfl
    · rw [of_decide_eq_true h]; exact tri_no se_str rfl rfl
    · exact tri_no se_non rfl rfl
    · cases h
  | glo x d =>
    refine go_of (fun G X E Γ n sc e w hN hs h => ?_) (fun _ _ => rfl) trivial
    simp only [chkE] at h
    split at h
    · simp only [Bool.and_eq_true, decide_eq_true_eq] at h
      obtain ⟨⟨⟨rfl, h1⟩, h2⟩, h3⟩ := h
      obtain ⟨o1, o2, o3⟩ := okN_of h3
      obtain ⟨t, ht⟩ := w.consts _ _ h2
      refine tri_name (se_glo ?_ ht o1)
      show X.env.scope.names.lookup x = _
      rw [hs]
      exact of_decide_eq_true h1
    · cases h
  | bty t =>
    refine go_of (fun G X E Γ n sc e w hN hs h => ?_) (fun _ _ => rfl) trivial
    simp only [chkE] at h
    split at h
    · simp only [Bool.and_eq_true, decide_eq_true_eq] at h
      obtain ⟨f1, f2, f3, f4⟩ := free_of w hs h.1
      exact tri_name (se_bty f1 f2 (boot_ty h.2) f4 f3)
    · cases h
  | bin op a b iha ihb =>
    refine go_of (fun G X E Γ n sc e w hN hs h => ?_) (fun _ _ => rfl) trivial
    simp only [chkE] at h
    split at h
    · simp only [Bool.and_eq_true, decide_eq_true_eq] at h
      obtain ⟨⟨rfl, h1⟩, h2⟩ := h
      obtain ⟨r, b1, b2⟩ := bin_ok w.xo op
      exact tri_no (se_bin2 b1 b2 (iha.1 G X E Γ n sc _ w hN hs h1).1 (ihb.1 G X E Γ n sc _ w hN hs h2).1) rfl rfl
    · cases h
  | neg a iha =>
    refine go_of (fun G X E Γ n sc e w hN hs h => ?_) (fun _ _ => rfl) trivial
    simp only [chkE] at h
    split at h
    · exact tri_no (se_neg (iha.1 G X E Γ n sc _ w hN hs h).1) rfl rfl
    · cases h
  | not a iha =>
    refine go_of (fun G X E Γ n sc e w hN hs h => ?_) (fun _ _ => rfl) trivial
    simp only [chkE] at h
    split at h
    · simp only [Bool.and_eq_true] at h
      have z := iha.1 G X E Γ n sc _ w hN hs h.1
      exact tri_st (se_not z.1) (stb_not (z.2.1 h.2)) rfl
    · cases h
  | and a b iha ihb =>
    refine go_of (fun G X E Γ n sc e w hN hs h => ?_) (fun _ _ => rfl) trivial
    simp only [chkE] at h
    split at h
    · rename_i x y rest pos
      simp only [Bool.and_eq_true] at h
      obtain ⟨⟨h1, h2⟩, h3⟩ := h
      have za := iha.1 G X E Γ n sc _ w hN hs h1
      cases rest with
      | nil =>
        simp only [Bool.and_eq_true] at h3
        have zb := ihb.1 G X E Γ n sc _ w hN hs h3.1
        have zw := swb_and (pos := pos) (za.2.1 h2) (swb_and1 (zb.2.1 h3.2))
        exact ⟨se_and za.1 (se_one zb.1), fun _ => zw.st, fun _ => zw⟩
      | cons z rest =>
        have zb := ihb.1 G X E Γ n sc _ w hN hs h3
        have zw := swb_and (pos := pos) (za.2.1 h2) (zb.2.2 rfl)
        exact ⟨se_and za.1 zb.1, fun _ => zw.st, fun _ => zw⟩
    · cases h
  | or a b iha ihb =>
    refine go_of (fun G X E Γ n sc e w hN hs h => ?_) (fun _ _ => rfl) trivial
    simp only [chkE] at h
    split at h
    · rename_i x y rest pos
      simp only [Bool.and_eq_true] at h
      obtain ⟨⟨h1, h2⟩, h3⟩ := h
      have za := iha.1 G X E Γ n sc _ w hN hs h1
      cases rest with
      | nil =>
        simp only [Bool.and_eq_true] at h3
        have zb := ihb.1 G X E Γ n sc _ w hN hs h3.1
        have zw := swb_or (pos := pos) (za.2.1 h2) (swb_or1 (zb.2.1 h3.2))
        exact ⟨se_or za.1 (se_one zb.1), fun _ => zw.st, fun _ => zw⟩
      | cons z rest =>
        have zb := ihb.1 G X E Γ n sc _ w hN hs h3
        have zw := swb_or (pos := pos) (za.2.1 h2) (zb.2.2 rfl)
        exact ⟨se_or za.1 zb.1, fun _ => zw.st, fun _ => zw⟩
    · cases h
  | cmp op a b iha ihb =>
    refine go_of (fun G X E Γ n sc e w hN hs h => ?_) (fun _ _ => rfl) trivial
    simp only [chkE] at h
    split at h
    · simp only [Bool.and_eq_true, decide_eq_true_eq] at h
      obtain ⟨⟨⟨rfl, h1⟩, h2⟩, h3⟩ := h
      obtain ⟨r, b1, b2⟩ := cmp_ok w.xo w.sm op
      have za := (iha.1 G X E Γ n sc _ w hN hs h1).1
      have zb := (ihb.1 G X E Γ n sc _ w hN hs h2).1
      exact tri_st (se_cmp2 b1 b2 (notSet_marks h3) za zb) (stb_cmp b1 b2 (notSet_marks h3) za zb) rfl
    · cases h
  | cmp2 op op' a b c iha ihb ihc =>
    refine go_of (fun G X E Γ n sc e w hN hs h => ?_) (fun _ _ => rfl) trivial
    simp only [chkE] at h
    split at h
    · simp only [Bool.and_eq_true, decide_eq_true_eq] at h
      obtain ⟨⟨⟨⟨⟨rfl, rfl⟩, h1⟩, h2⟩, h3⟩, h4⟩ := h
      obtain ⟨r, b1, b2⟩ := cmp_ok w.xo w.sm op
      obtain ⟨r', b1', b2'⟩ := cmp_ok w.xo w.sm op'
      have za := (iha.1 G X E Γ n sc _ w hN hs h1).1
      have zb := (ihb.1 G X E Γ n sc _ w hN hs h2).1
      have zc := (ihc.1 G X E Γ n sc _ w hN hs h3).1
      exact tri_st (se_chain b1 b2 b1' b2' (notSet_marks h4) za zb zc) (stb_chain b1 b2 b1' b2' (notSet_marks h4) za zb zc) rfl
    · cases h
  | ite t a b iht iha ihb =>
    refine go_of (fun G X E Γ n sc e w hN hs h => ?_) (fun _ _ => rfl) trivial
    simp only [chkE] at h
    split at h
    · simp only [Bool.and_eq_true] at h
      obtain ⟨⟨⟨h1, h2⟩, h3⟩, h4⟩ := h
      exact tri_no (se_ite ((iht.1 G X E Γ n sc _ w hN hs h1).2.1 h2) (iha.1 G X E Γ n sc _ w hN hs h3).1 (ihb.1 G X E Γ n sc _ w hN hs h4).1) rfl rfl
    · cases h
  | tup as ih =>
    refine go_of (fun G X E Γ n sc e w hN hs h => ?_) (fun _ _ => rfl) trivial
    simp only [chkE] at h
    split at h
    · simp only [Bool.and_eq_true, decide_eq_true_eq] at h
      exact tri_no (se_tup (ih.2.1 G X E Γ n sc _ w hN hs h.1) h.2) rfl rfl
    · cases h
  | lst as ih =>
    refine go_of (fun G X E Γ n sc e w hN hs h => ?_) (fun _ _ => rfl) trivial
    simp only [chkE] at h
    split at h
    · simp only [Bool.and_eq_true, decide_eq_true_eq] at h
      exact tri_no (se_lst (ih.2.1 G X E Γ n sc _ w hN hs h.1) h.2) rfl rfl
    · cases h
  | dct ks as ih =>
    refine go_of (fun G X E Γ n sc e w hN hs h => ?_) (fun _ _ => rfl) trivial
    simp only [chkE] at h
    split at h
    · rename_i keys values pos
      simp only [Bool.and_eq_true, decide_eq_true_eq] at h
      obtain ⟨⟨⟨⟨h1, h2⟩, h3⟩, h4⟩, h5⟩ := h
      obtain ⟨z1, z2⟩ := pairs_all h1
      cases keys with
      | nil =>
        cases values with
        | cons => simp at h3
        | nil =>
          cases ks with
          | cons => simp at z2
          | nil =>
            have e0 : as = .nil := by cases as <;> simp [chkA] at h2 <;> rfl
            subst e0
            exact tri_no dct0 rfl rfl
      | cons k keys => exact tri_no (se_dct (sps_of ih.2.2 w hN hs h1 h2 h3) z1 h3 (by simp) h4 z2 h5) rfl rfl
    · cases h
  | call f as ih =>
    refine go_of (fun G X E Γ n sc e w hN hs h => ?_) (fun _ _ => rfl) trivial
    simp only [chkE] at h
    split at h
    · simp only [Bool.and_eq_true, decide_eq_true_eq] at h
      exact tri_call (se_call w hN hs h.1.1.1 h.1.1.2 h.1.2 ih.2.1 h.2)
    · cases h
  | blt f as ih =>
    refine go_of (fun G X E Γ n sc e w hN hs h => ?_) (fun _ _ => rfl) trivial
    simp only [chkE] at h
    split at h
    · simp only [Bool.and_eq_true, decide_eq_true_eq] at h
      obtain ⟨⟨⟨h1, h2⟩, h3⟩, h4⟩ := h
      obtain ⟨f1, f2, f3, f4⟩ := free_of w hs h2
      have pl := chkA_plain h3
      rename_i x p es pos
      cases es with
      | nil => exact absurd rfl h4
      | cons e es => exact tri_call (blt_se w h1 f1 f2 f3 f4 (ih.2.1 G X E Γ n sc _ w hN hs h3) (plain_star (pl e List.mem_cons_self) es X.env) (plain_any fun e' he => pl e' (List.mem_cons_of_mem _ he)))
    · cases h
  | mth m o as iho ih =>
    refine go_of (fun G X E Γ n sc e w hN hs h => ?_) (fun _ _ => rfl) trivial
    simp only [chkE] at h
    split at h
    · simp only [Bool.and_eq_true, decide_eq_true_eq] at h
      obtain ⟨⟨⟨⟨⟨⟨⟨h1, h2⟩, h3⟩, h4⟩, h5⟩, h6⟩, h7⟩, h8⟩ := h
      have pl := chkA_plain h5
      rename_i eo name apos es cpos
      cases es with
      | nil => exact absurd rfl h6
      | cons e es => exact tri_call (se_mt w h2 h1 (iho.1 G X E Γ n sc _ w hN hs h3).1 (ih.2.1 G X E Γ n sc _ w hN hs h5) (baseOk_eq h4) (few_plain pl h7) h8 (plain_star (pl e List.mem_cons_self) es X.env) (plain_any fun e' he => pl e' (List.mem_cons_of_mem _ he)))
    · cases h
  | omth => exact go_of (gNo fun _ _ => rfl) (fun _ _ => rfl) trivial
  | make => exact go_of (gNo fun _ _ => rfl) (fun _ _ => rfl) trivial
  | idx a b iha ihb =>
    refine go_of (fun G X E Γ n sc e w hN hs h => ?_) (fun _ _ => rfl) trivial
    simp only [chkE] at h
    split at h
    · simp only [Bool.and_eq_true] at h
      obtain ⟨r, b1, b2⟩ := idx_ok w.xo
      exact tri_no (se_idx b1 b2 (notSlice_ix h.2) (iha.1 G X E Γ n sc _ w hN hs h.1.1).1 (ihb.1 G X E Γ n sc _ w hN hs h.1.2).1) rfl rfl
    · cases h
  | slc a lo hi iha ihl ihh =>
    refine go_of (fun G X E Γ n sc e w hN hs h => ?_) (fun _ _ => rfl) trivial
    simp only [chkE] at h
    split at h
    · simp only [Bool.and_eq_true] at h
      obtain ⟨r, b1, b2⟩ := slc_ok w.xo
      exact tri_no (se_slc b1 b2 (iha.1 G X E Γ n sc _ w hN hs h.1.1).1 (sb_of ihl.1 w hN hs h.1.2) (sb_of ihh.1 w hN hs h.2)) rfl rfl
    · cases h
  | rev a iha =>
    refine go_of (fun G X E Γ n sc e w hN hs h => ?_) (fun _ _ => rfl) trivial
    simp only [chkE] at h
    split at h
    · exact tri_no (se_rev w.xo (iha.1 G X E Γ n sc _ w hN hs h).1) rfl rfl
    · cases h
  | fld => exact go_of (gNo fun _ _ => rfl) (fun _ _ => rfl) trivial
  | lc tg it x cond elt ihx ihc ihe =>
    refine go_of (fun G X E Γ n sc e w hN hs h => ?_) (fun _ _ => rfl) trivial
    obtain ⟨eelt, etg, eiter, ifs, scope, pos, rfl, L⟩ := lc_parts h
    have ok : BlkOk X.N X.env.scope scope (ownOf N tg) := by rw [hN, hs]; exact blkOk_by L.blk
    exact tri_no (se_lc w.xo (si_of ihx w hN hs L.iter) ok ownOf_slots (by rw [hN]; exact L.tg) (ifs_of ihc.1 w hN hs L.ifs) (L.elt_of ihe.1 w hN hs) (notSet_fold L.set X.env)) rfl rfl
  | nil =>
    refine ⟨gNo fun _ _ => rfl, fun G X E Γ n sc es w hN hs h => ?_, trivial⟩
    cases es with
    | nil => exact sa_nil
    | cons => simp [chkA] at h
  | cons a as iha ih =>
    refine ⟨gNo fun _ _ => rfl, fun G X E Γ n sc es w hN hs h => ?_, iha.1, ih.2.2⟩
    cases es with
    | nil => simp [chkA] at h
    | cons e es =>
      simp only [chkA, Bool.and_eq_true] at h
      exact sa_cons (iha.1 G X E Γ n sc e w hN hs h.1.2).1 (ih.2.1 G X E Γ n sc es w hN hs h.2) (plain_star h.1.1 es X.env)
  | no => exact go_of (gNo fun _ _ => rfl) (fun _ _ => rfl) trivial
end
end MP

namespace MP
open PySem L2
def locB (sc : Scope) (x : Str) : Bool := decide (sc.names.lookup x = some .local)
def celB (sc : Scope) (x : Str) : Bool := decide (sc.names.lookup x = some .local) || decide (sc.names.lookup x = some .cell)
def notTup (e : Expr) : Bool := !isTuple e
def nameOf : Expr → Option (Str × Nat)
  | .Name x p => some (x, p.line)
  | _ => none
/-- a parallel assignment of names -/
def parOk (N : List Str) (sc : Scope) (is : List Nat) (ts vs : List Expr) : Bool :=
  (match is, ts, vs with
    | [i, j], [.Name x px, .Name y py], [_, _] => decide (N[i]? = some x) && decide (N[j]? = some y) && decide (i ≠ j) && locB sc x && locB sc y && decide (py.line = px.line) && decide (x ≠ y)
    | [i, j, l], [.Name x px, .Name y py, .Name z pz], [_, _, _] => decide (N[i]? = some x) && decide (N[j]? = some y) && decide (N[l]? = some z) && decide (i ≠ j) && decide (i ≠ l) && decide (j ≠ l) && locB sc x && locB sc y && locB sc z
        && decide (py.line = px.line) && decide (pz.line = px.line) && decide (x ≠ y) && decide (x ≠ z) && decide (y ≠ z)
    | _, _, _ => false) && vs.all plainE && !vs.all (foldedForSure 8) && !vs.all (constantsAlone 8)
def lcSw (sc : Scope) (x : Str) (px : Pos) : Expr → Bool
  | .ListComp _ _ scope pos => locB sc x && (px.line == pos.line) && !(scope.names.any fun (n, k) => n == x && (k == .local || k == .cell))
  | _ => false
def isLc : C → Bool
  | .lc _ _ _ _ _ => true
  | _ => false
mutual
def chk1 (T : Tab) (N : List Str) (sc : Scope) : K → Stmt → Bool
  | .skip, st => match st with
    | .Pass _ => true
    | _ => false
  | .dead, _ => true
  | .cont, st => match st with
    | .Continue _ => true
    | _ => false
  | .seq _ _, _ => false
  | .expr c, st => match st with
    | .Expr e _ => chkE T N c sc e && notComp e
    | _ => false
  | .set i c, st => match st with
    | .Assign [.Name x p] e _ => decide (N[i]? = some x) && celB sc x && chkE T N c sc e && (notComp e || (isLc c && lcSw sc x p e))
    | _ => false
  | .unp is c, st => match st with
    | .Assign [.Tuple es k tp] e _ => (Tg.many is).ok N sc (.Tuple es k tp) && chkE T N c sc e && (match e with
      | .Tuple vs _ _ => vs.all (foldedForSure 8) || !(es.length == 2 || es.length == 3)
      | _ => true)
    | _ => false
  | .par is as, st => match st with
    | .Assign [.Tuple ts _ _] (.Tuple vs _ _) _ => parOk N sc is ts vs && chkA T N as sc vs
    | _ => false
  | .put o i v, st => match st with
    | .Assign [.Subscript eo ei _] ev _ => chkE T N o sc eo && chkE T N i sc ei && chkE T N v sc ev
    | _ => false
  | .setf _ _ _ _, _ => false
  | .ret c, st => match st with
    | .Return (some e) _ => chkE T N c sc e
    | _ => false
  | .retN, st => match st with
    | .Return none _ => true
    | _ => false
  | .ife t a b, st => match st with
    | .If et as bs _ => chkE T N t sc et && tstOk et && chkB T N sc a as && chkB T N sc b bs
    | _ => false
  | .whl t b, st => match st with
    | .While et bs [] _ => chkE T N t sc et && tstOk et && chkB T N sc b bs
    | _ => false
  | .for_ tg it x b, st => match st with
    | .For etg eiter bs [] _ => tg.ok N sc etg && chkI T N it x sc etg eiter && chkB T N sc b bs && notSet eiter
    | _ => false
  | .rais _, _ => false
def chkB (T : Tab) (N : List Str) (sc : Scope) : K → List Stmt → Bool
  | .skip, sts => match sts with
    | [] => true
    | _ => false
  | .seq a b, sts => match sts with
    | st :: rest => chk1 T N sc a st && chkB T N sc b rest
    | _ => false
  | _, _ => false
end
structure Wo2 (G : Gx) (T : Tab) (X : Cx) (E : XK) (Γ : Cal) (n : Nat) : Prop where
  w : Wok G T X E Γ n
  fn : ∀ x, X.fn x = true
  own : PassesOwn (model X.prog X.w) X.A X.env X.xe
  kind : X.env.scope.kind = .function
section
variable {G : Gx} {T : Tab} {X : Cx} {E : XK} {Γ : Cal} {n W : Nat} {N : List Str} {sc : Scope}
theorem s1_dead {st : Stmt} : S1 G X E Γ W .dead st := ⟨fun _ _ _ => False, ⟨fun _ _ _ _ _ _ h => h.elim⟩, fun r s A H S D er R h => by simp only [evS] at h; exact h⟩
theorem sw_plain {e : Expr} {t : Option Expr} {l : Nat} {env : PySem.Env} (h : notComp e = true) : swapsWith e t l env = pure false := by
  cases e <;> first | rfl | (simp [notComp] at h)
theorem sw_other {e t : Expr} {l : Nat} {env : PySem.Env} (h : (∃ es k p, t = .Tuple es k p) ∨ ∃ o i p, t = .Subscript o i p) : swapsWithSole [t] e l env = pure false := by
  rcases h with ⟨es, k, p, rfl⟩ | ⟨es, k, p, rfl⟩ <;> cases e <;> rfl
theorem st_sub {o i e : Expr} {p : Pos} {env : PySem.Env} : swappedStores [.Subscript o i p] e env = pure none := by
  cases e <;> rfl
theorem st_plain {es : List Expr} {k : Nat} {p : Pos} {e : Expr} {env : PySem.Env} (h : isTuple e = false) : swappedStores [.Tuple es k p] e env = pure none := by
  cases e <;> first | rfl | (simp [isTuple] at h)
theorem st_fold {es vs : List Expr} {k k' : Nat} {p p' : Pos} {env : PySem.Env} (h : (vs.all (foldedForSure 8) || !(es.length == 2 || es.length == 3)) = true) : swappedStores [.Tuple es k p] (.Tuple vs k' p') env = pure none := by
  unfold swappedStores
  rcases Bool.or_eq_true_iff.mp h with h | h
  · simp only [h]
    repeat' split
    all_goals first | rfl | simp_all
  · simp [h]
theorem noStar (a : Expr) : plainE a = true → (match a with | .Starred .. => true | _ => false) = false := by
  intro h
  cases a <;> first | rfl | (simp [plainE] at h)
theorem st_two {x y : Str} {px py pt pt2 : Pos} {kt k2 : Nat} {a b : Expr} {env : PySem.Env} (hk : env.scope.kind = .function) (hx : env.scope.names.lookup x = some .local) (hy : env.scope.names.lookup y = some .local) (hl : py.line = px.line) (hn : x ≠ y)
    (hp : [a, b].all plainE = true) (h1 : [a, b].all (foldedForSure 8) = false) (h2 : [a, b].all (constantsAlone 8) = false) : swappedStores [.Tuple [.Name x px, .Name y py] kt pt] (.Tuple [a, b] k2 pt2) env = pure (some [x, y]) := by
  have hb : env.blockKind = .function := by unfold Env.blockKind; rw [hk]; rfl
  have kx : env.kindOf x = some .local := hx
  have ky : env.kindOf y = some .local := hy
  simp only [List.all_cons, List.all_nil, Bool.and_true, Bool.and_eq_true] at hp
  have sa := noStar _ hp.1
  have sb := noStar _ hp.2
  have hd : ([x, y] : List Str).eraseDups = [x, y] := by
    simp [List.eraseDups_cons, hn.symm]
  unfold swappedStores
  simp [hb, kx, ky, hl, Expr.pos, h1, h2, hd]
  intro h
  rcases h with h | h
  · exact absurd (sa.symm.trans h) (by decide)
  · exact absurd (sb.symm.trans h) (by decide)
theorem st_three {x y z : Str} {px py pz pt pt2 : Pos} {kt k2 : Nat} {a b c : Expr} {env : PySem.Env} (hk : env.scope.kind = .function) (hx : env.scope.names.lookup x = some .local) (hy : env.scope.names.lookup y = some .local) (hz : env.scope.names.lookup z = some .local)
    (hl : py.line = px.line) (hl2 : pz.line = px.line) (hn : x ≠ y) (hn2 : x ≠ z) (hn3 : y ≠ z)
    (hp : [a, b, c].all plainE = true) (h1 : [a, b, c].all (foldedForSure 8) = false) (h2 : [a, b, c].all (constantsAlone 8) = false) : swappedStores [.Tuple [.Name x px, .Name y py, .Name z pz] kt pt] (.Tuple [a, b, c] k2 pt2) env = pure (some [x, y, z]) := by
  have hb : env.blockKind = .function := by unfold Env.blockKind; rw [hk]; rfl
  have kx : env.kindOf x = some .local := hx
  have ky : env.kindOf y = some .local := hy
  have kz : env.kindOf z = some .local := hz
  simp only [List.all_cons, List.all_nil, Bool.and_true, Bool.and_eq_true] at hp
  have sa := noStar _ hp.1
  have sb := noStar _ hp.2.1
  have sc := noStar _ hp.2.2
  have hd : ([x, y, z] : List Str).eraseDups = [x, y, z] := by
    simp [List.eraseDups_cons, hn.symm, hn2.symm, hn3.symm]
  unfold swappedStores
  simp [hb, kx, ky, kz, hl, hl2, Expr.pos, h1, h2, hd]
  intro h
  rcases h with h | h | h
  · exact absurd (sa.symm.trans h) (by decide)
  · exact absurd (sb.symm.trans h) (by decide)
  · exact absurd (sc.symm.trans h) (by decide)
theorem Wo2.canSet (w : Wo2 G T X E Γ n) (hs : X.env.scope = sc) : CanSet X sc := by
  intro x h
  rw [← hs] at h
  exact ⟨h, .inl (w.fn x)⟩
theorem sub_eq {eo ei : Expr} {p : Pos} {env : PySem.Env} (h : notSlice ei = true) (v : Value) : assign (.Subscript eo ei p) env v = (do
      let ov ← holding [v] (eval eo env)
      let iv ← holding [v, ov] (eval ei env)
      standAt p
      holding [v, ov, iv] (setItem ov iv v)
      release [v, ov, iv] []) := by
  cases ei <;> first | rfl | (simp [notSlice] at h)
theorem chk_notSlice {c : C} {e : Expr} (h : chkE T N c sc e = true) : notSlice e = true := by
  cases e <;> first | rfl | (cases c <;> simp [chkE] at h)
def G1 (T : Tab) (N : List Str) (W : Nat) (k : K) : Prop := ∀ (G : Gx) (X : Cx) (E : XK) (Γ : Cal) (n : Nat) (sc : Scope) (st : Stmt), Wo2 G T X E Γ n → X.N = N → X.env.scope = sc → chk1 T N sc k st = true → S1 G X E Γ W k st
def GB (T : Tab) (N : List Str) (W : Nat) (k : K) : Prop := ∀ (G : Gx) (X : Cx) (E : XK) (Γ : Cal) (n : Nat) (sc : Scope) (sts : List Stmt), Wo2 G T X E Γ n → X.N = N → X.env.scope = sc → chkB T N sc k sts = true → SS G X E Γ W k sts
theorem gbNo {k : K} (h : ∀ sc sts, chkB T N sc k sts = false) : GB T N W k := fun G X E Γ n sc es _ _ _ hc => by rw [h] at hc; cases hc
theorem gs_all (T : Tab) (N : List Str) (W : Nat) : ∀ k : K, G1 T N W k ∧ GB T N W k := by
  intro k
  induction k with
  | skip =>
    refine ⟨fun G X E Γ n sc st w hN hs h => ?_, fun G X E Γ n sc sts w hN hs h => ?_⟩
    · cases st <;> simp [chk1] at h
      exact s1_pass
    · cases sts <;> simp [chkB] at h
      exact ss_skip
  | seq a b iha ihb =>
    refine ⟨fun G X E Γ n sc st w hN hs h => by simp [chk1] at h, fun G X E Γ n sc sts w hN hs h => ?_⟩
    cases sts <;> simp only [chkB, Bool.and_eq_true, Bool.false_eq_true] at h
    exact ss_seq (iha.1 G X E Γ n sc _ w hN hs h.1) (ihb.2 G X E Γ n sc _ w hN hs h.2)
  | dead => exact ⟨fun G X E Γ n sc st w hN hs h => s1_dead, gbNo fun _ _ => rfl⟩
  | cont =>
    refine ⟨fun G X E Γ n sc st w hN hs h => ?_, gbNo fun _ _ => rfl⟩
    cases st <;> simp [chk1] at h
    exact s1_cont
  | expr c =>
    refine ⟨fun G X E Γ n sc st w hN hs h => ?_, gbNo fun _ _ => rfl⟩
    cases st <;> simp only [chk1, Bool.and_eq_true, Bool.false_eq_true] at h
    exact s1_expr ((go_all T N c).1 G X E Γ n sc _ w.w hN hs h.1).1 (sw_plain h.2)
  | set i c =>
    refine ⟨fun G X E Γ n sc st w hN hs h => ?_, gbNo fun _ _ => rfl⟩
    simp only [chk1] at h
    split at h
    · rename_i x p e pos
      simp only [Bool.and_eq_true, decide_eq_true_eq, Bool.or_eq_true] at h
      obtain ⟨⟨⟨h1, h2⟩, h3⟩, h4⟩ := h
      have lo : L2.Loc X.env.scope x := by
        rw [hs]
        simpa [celB, L2.Loc] using h2
      rcases h4 with h4 | h4
      · exact s1_set w.w.xo.nd (by rw [hN]; exact h1) lo (.inl (w.fn x)) ((go_all T N c).1 G X E Γ n sc _ w.w hN hs h3).1 (sw_plain h4)
      · obtain ⟨h4, h5⟩ := h4
        cases c <;> simp only [isLc, Bool.false_eq_true] at h4
        rename_i tg it y cond elt
        obtain ⟨eelt, etg, eiter, ifs, scope, lpos, rfl, L⟩ := lc_parts h3
        simp only [lcSw, Bool.and_eq_true, Bool.not_eq_true'] at h5
        have ok : BlkOk X.N X.env.scope scope (ownOf N tg) := by rw [hN, hs]; exact blkOk_by L.blk
        have hl : X.env.scope.names.lookup x = some .local := by rw [hs]; exact of_decide_eq_true h5.1.1
        exact s1_setLc w.w.xo (by rw [hN]; exact h1) hl (sw_true w.kind hl h5.1.2 h5.2) (si_of (go_all T N y) w.w hN hs L.iter) ok ownOf_slots (by rw [hN]; exact L.tg) (ifs_of (go_all T N cond).1 w.w hN hs L.ifs) (L.elt_of (go_all T N elt).1 w.w hN hs) (notSet_fold L.set X.env)
    · cases h
  | unp is c =>
    refine ⟨fun G X E Γ n sc st w hN hs h => ?_, gbNo fun _ _ => rfl⟩
    simp only [chk1] at h
    split at h
    · rename_i es k tp e pos
      simp only [Bool.and_eq_true] at h
      refine s1_unp w.w.xo (w.canSet hs) (by rw [hN]; exact h.1.1) ((go_all T N c).1 G X E Γ n sc _ w.w hN hs h.1.2).1 (sw_other (.inl ⟨_, _, _, rfl⟩)) ?_
      have h2 := h.2
      cases e <;> first | exact st_plain rfl | exact st_fold h2
    · cases h
  | par is as =>
    refine ⟨fun G X E Γ n sc st w hN hs h => ?_, gbNo fun _ _ => rfl⟩
    simp only [chk1] at h
    split at h
    · rename_i ts k tp vs k2 tp2 pos
      simp only [Bool.and_eq_true] at h
      obtain ⟨h1, h2⟩ := h
      have sa := (go_all T N as).2.1 G X E Γ n sc _ w.w hN hs h2
      unfold parOk at h1
      simp only [Bool.and_eq_true, Bool.not_eq_true'] at h1
      obtain ⟨⟨⟨h1, p1⟩, p2⟩, p3⟩ := h1
      split at h1
      · simp only [Bool.and_eq_true, decide_eq_true_eq, locB] at h1
        obtain ⟨⟨⟨⟨⟨⟨a1, a2⟩, a3⟩, a4⟩, a5⟩, a6⟩, a7⟩ := h1
        rw [← hs] at a4 a5
        exact s1_par2 w.w.xo (by rw [hN]; exact a1) (by rw [hN]; exact a2) a3 a4 a5 sa (st_two w.kind a4 a5 a6 a7 p1 p2 p3)
      · simp only [Bool.and_eq_true, decide_eq_true_eq, locB] at h1
        obtain ⟨⟨⟨⟨⟨⟨⟨⟨⟨⟨⟨⟨⟨a1, a2⟩, a3⟩, a4⟩, a5⟩, a6⟩, a7⟩, a8⟩, a9⟩, b1⟩, b2⟩, b3⟩, b4⟩, b5⟩ := h1
        rw [← hs] at a7 a8 a9
        exact s1_par3 w.w.xo (by rw [hN]; exact a1) (by rw [hN]; exact a2) (by rw [hN]; exact a3) a4 a5 a6 a7 a8 a9 sa (st_three w.kind a7 a8 a9 b1 b2 b3 b4 b5 p1 p2 p3)
      · cases h1
    · cases h
  | put o i v =>
    refine ⟨fun G X E Γ n sc st w hN hs h => ?_, gbNo fun _ _ => rfl⟩
    simp only [chk1] at h
    split at h
    · simp only [Bool.and_eq_true] at h
      exact s1_put w.w.xo ((go_all T N o).1 G X E Γ n sc _ w.w hN hs h.1.1).1 ((go_all T N i).1 G X E Γ n sc _ w.w hN hs h.1.2).1 ((go_all T N v).1 G X E Γ n sc _ w.w hN hs h.2).1 (sub_eq (chk_notSlice h.1.2)) (sw_other (.inr ⟨_, _, _, rfl⟩)) st_sub
    · cases h
  | setf => exact ⟨fun G X E Γ n sc st w hN hs h => by simp [chk1] at h, gbNo fun _ _ => rfl⟩
  | ret c =>
    refine ⟨fun G X E Γ n sc st w hN hs h => ?_, gbNo fun _ _ => rfl⟩
    simp only [chk1] at h
    split at h
    · exact s1_ret ((go_all T N c).1 G X E Γ n sc _ w.w hN hs h).1
    · cases h
  | retN =>
    refine ⟨fun G X E Γ n sc st w hN hs h => ?_, gbNo fun _ _ => rfl⟩
    simp only [chk1] at h
    split at h
    · exact s1_retN
    · cases h
  | ife t a b iha ihb =>
    refine ⟨fun G X E Γ n sc st w hN hs h => ?_, gbNo fun _ _ => rfl⟩
    simp only [chk1] at h
    split at h
    · simp only [Bool.and_eq_true] at h
      exact s1_if (((go_all T N t).1 G X E Γ n sc _ w.w hN hs h.1.1.1).2.1 h.1.1.2) (iha.2 G X E Γ n sc _ w hN hs h.1.2) (ihb.2 G X E Γ n sc _ w hN hs h.2)
    · cases h
  | whl t b ihb =>
    refine ⟨fun G X E Γ n sc st w hN hs h => ?_, gbNo fun _ _ => rfl⟩
    simp only [chk1] at h
    split at h
    · simp only [Bool.and_eq_true] at h
      exact s1_while w.own (((go_all T N t).1 G X E Γ n sc _ w.w hN hs h.1.1).2.1 h.1.2) (ihb.2 G X E Γ n sc _ w hN hs h.2)
    · cases h
  | for_ tg it x b ihb =>
    refine ⟨fun G X E Γ n sc st w hN hs h => ?_, gbNo fun _ _ => rfl⟩
    simp only [chk1] at h
    split at h
    · simp only [Bool.and_eq_true] at h
      exact s1_for w.w.xo w.own (w.canSet hs) (by rw [hN]; exact h.1.1.1) (si_of (go_all T N x) w.w hN hs h.1.1.2) (ihb.2 G X E Γ n sc _ w hN hs h.1.2) (notSet_fold h.2 X.env)
    · cases h
  | rais => exact ⟨fun G X E Γ n sc st w hN hs h => by simp [chk1] at h, gbNo fun _ _ => rfl⟩
end
end MP

namespace MP
open PySem L2
/-- a def of the text: its names, its datum, its code -/
structure Fd where
  N : List Str
  ps : List Str
  d : He.DefD
  c : Def
def scB (N ps : List Str) (sc : Scope) : Bool :=
  decide (sc.kind = .function) && !sc.isCoroutine && !sc.isGenerator && decide N.Nodup && decide (N.take ps.length = ps) && (ps.all fun x => celB sc x) && sc.names.all fun y => decide (y.2 ≠ .free)
theorem scB_ok {N ps : List Str} {sc : Scope} (h : scB N ps sc = true) : FnScope N ps sc := by
  unfold scB at h
  simp only [Bool.and_eq_true, decide_eq_true_eq, Bool.not_eq_true'] at h
  obtain ⟨⟨⟨⟨⟨⟨h1, h2⟩, h3⟩, h4⟩, h5⟩, h6⟩, h7⟩ := h
  refine ⟨h1, h2, h3, h4, h5, fun x hx => ?_, fun y hy => ?_⟩
  · have := List.all_eq_true.mp h6 x hx
    simpa [celB] using this
  · simpa using List.all_eq_true.mp h7 y hy
def Fd.ok (T : Tab) (f : Fd) : Bool := scB f.N f.ps f.d.scope && decide (f.c.nps = f.ps.length) && decide (f.c.nsl = f.N.length) && decide (f.ps.length ≤ f.N.length) && chkB T f.N f.d.scope f.c.body f.d.body
section
variable {G : Gx} {T : Tab} {P : Program} {w : World} {base : Heap} {W : Nat} {defs : Nat → Option Def} {A : List Addr} {H : Hp} {S : Store} {E : XK}
theorem fs_ends {r : Res Fl} {Q : VK} (h : FinE G A H (ends r) Q E) : FS G A H r { nx := fun _ H' => Q .non H', rt := Q } E := by
  match r, h with
  | .ok (.nx ρ) S', h => exact fun A' H' σ' e R _ => h A' H' .non e R .non
  | .ok (.rt d) S', h => exact fun A' H' v e R p => h A' H' v e R p
  | .ok (.ct ρ) S', h => exact h.elim
  | .exc c S', h => exact h
  | .bad, h => exact h
theorem erel_start {ds : List D} {vs : List V} {N : List Str} {m : Nat} (r : RepL G A H ds vs) (hm : m = N.length) (hl : ds.length ≤ N.length) : ERel G A H (ds.map some ++ List.replicate (m - ds.length) none) (L2.start N vs) := by
  have hlen := r.length
  refine ⟨?_, fun i d hi => ?_⟩
  · unfold L2.start
    simp only [List.length_append, List.length_map, List.length_replicate]
    omega
  · unfold L2.start
    rcases Nat.lt_or_ge i ds.length with q | q
    · rw [List.getElem?_append_left (by simpa using q), List.getElem?_map] at hi
      cases e : ds[i]? with
      | none => rw [e] at hi; simp at hi
      | some d' =>
        rw [e] at hi
        simp at hi
        subst hi
        obtain ⟨v, h1, h2⟩ := r.get e
        refine ⟨v, ?_, h2⟩
        rw [List.getElem?_append_left (by simp; omega), List.getElem?_map, h1]
        rfl
    · rw [List.getElem?_append_right (by simpa using q)] at hi
      rw [List.getElem?_replicate] at hi
      split at hi <;> simp at hi
/-- the written part knows these defs -/
structure Prog (G : Gx) (T : Tab) (defs : Nat → Option Def) : Prop where
  funs : ∀ (f : Nat) (x : Str) (m : Nat), T.funs.lookup f = some (x, m) → ∃ (d : Fd) (fd : FuncData), d.ok T = true ∧ defs f = some d.c ∧ d.ps.length = m ∧ G.mg x = some (.ref (He.ga G.K x)) ∧
    FunD G.K x x d.d.params d.d.body d.d.scope [] [] (He.ga G.K x) fd ∧ Binds G.K fd d.ps []
  consts : ∀ (x : Str) (i : Int), T.consts.lookup x = some i → ∃ t, G.mg x = some (.int i t)
  free : ∀ (x : Str), T.free.contains x = true → G.mg x = none
theorem fn_all (pr : Prog G T defs) (sm : SmOk base) : ∀ n f x m, T.funs.lookup f = some (x, m) → ∃ a fd ps, G.mg x = some (.ref a) ∧ PySem.W.keepIn G.K (.ref a) = true ∧ Binds G.K fd ps [] ∧ FnG P w G.K G.mg base n a fd ps (spF G ⟨callF defs W n⟩ f m) := by
  intro n
  induction n with
  | zero =>
    intro f x m h
    obtain ⟨d, fd, h2, h3, h4, h5, F, B⟩ := pr.funs f x m h
    refine ⟨_, fd, d.ps, h5, F.kp, B, fun vs H Q E z => ?_, fun A outer s H args us vs Q E _ _ _ _ _ z => ?_⟩
    · obtain ⟨_, A, S, ds, _, _, z⟩ := z; exact z.elim
    · obtain ⟨_, A, S, ds, _, _, z⟩ := z; exact z.elim
  | succ n ih =>
    intro f x m h
    obtain ⟨d, fd, h2, h3, h4, h5, F, B⟩ := pr.funs f x m h
    unfold Fd.ok at h2
    simp only [Bool.and_eq_true, decide_eq_true_eq] at h2
    obtain ⟨⟨⟨⟨k1, k2⟩, k3⟩, k4⟩, k5⟩ := h2
    have FS0 := scB_ok k1
    obtain ⟨oc, od, dV, kV, doc, pm, an, cdv, ct, osl, rfl, lk, hcd, _, _⟩ := F.ex
    refine ⟨_, _, d.ps, h5, F.kp, B, ?_⟩
    refine fnG_of lk hcd FS0 (fun vs H Q E z => by rw [z.1, h4]) fun A outer s H vs Q E hr hg z => ?_
    have wk : Wok G T (cxOf (L2.CX P w) P w G.K G.mg base d.N x d.d.scope (He.ga G.K x) cdv A outer s H E) E ⟨callF defs W n⟩ n := by
      refine ⟨⟨rfl, rfl, rfl, FS0.nd, hr, hg⟩, sm, passes_call (takes_of rfl rfl rfl rfl) (fun _ _ _ _ z => z), pr.consts, pr.free, ih⟩
    have w2 : Wo2 G T (cxOf (L2.CX P w) P w G.K G.mg base d.N x d.d.scope (He.ga G.K x) cdv A outer s H E) E ⟨callF defs W n⟩ n := ⟨wk, fun _ => rfl, passes_of rfl, FS0.kind⟩
    obtain ⟨t, pt, q⟩ := (gs_all T d.N W d.c.body).2 _ _ _ _ n d.d.scope d.d.body w2 rfl rfl k5
    obtain ⟨hl, A1, S1, ds, R, rp, fin⟩ := z
    refine ⟨t, pt, ?_⟩
    simp only [callF, h3] at fin
    unfold runD at fin
    by_cases hds : ds.length = d.c.nps
    · rw [if_pos hds, ← hds] at fin
      exact q _ _ A1 H S1 _ (erel_start rp k3 (by omega)) R (fs_ends fin)
    · rw [if_neg hds] at fin
      exact fin.elim
end
end MP

namespace MP
open PySem PySem.Spec PyProof.Rows L2
theorem con_of {K : PySem.W.Frag} {H : Hp} {a : Addr} {vs : List V} (hO : Only H) (h : SqL K H a vs) : ConAt K H a vs := by
  rcases h with (h | h) | h
  · rcases hO a with z | ⟨o, xs, z⟩
    · rw [h] at z; cases z
    · rw [h] at z; cases z
  · exact .inl h
  · exact .inr h
theorem rep_ints {G : Gx} {A : List Addr} {H : Hp} : ∀ ns : List Int, RepL G A H (ns.map D.int) (ns.map V.int)
  | [] => .nil
  | n :: ns => .cons (.int n) (rep_ints ns)
/-- the script stands at a; nothing else is tracked -/
structure Scr (P : Program) (w : World) (K : PySem.W.Frag) (h : Heap) (H : Hp) (a : Addr) (ns : List Int) : Prop where
  only : Only H
  con : ConAt K H a (ns.map V.int)
  hok : HOk P w H h
  one : ∀ b, H b ≠ none → b = a
  out : H a ≠ none → K.lookup a = none
theorem scr_of {P : Program} {w : World} {K : PySem.W.Frag} {h : Heap} {a : Addr} {vs : List Value} {ns : List Int} (KX : K.In h) (ha : h.get? a = some { cls := .type "list", data := .seq vs.toArray }) (hi : IntsAre vs ns) (hl : ns.length ≤ sizeLine) : ∃ H, Scr P w K h H a ns := by
  have rv := vals_ints hi
  have lv := hi.length
  by_cases hk : K.lookup a = none
  · let ob : Obj := { cls := .type "list", data := .seq vs.toArray }
    have hit : (fun b => if b = a then some (HO.frz ob (.lst (ns.map V.int))) else none : Hp) a = some (.frz ob (.lst (ns.map V.int))) := if_pos rfl
    have off : ∀ b, b ≠ a → (fun b => if b = a then some (HO.frz ob (.lst (ns.map V.int))) else none : Hp) b = none := fun b hb => if_neg hb
    refine ⟨fun b => if b = a then some (HO.frz ob (.lst (ns.map V.int))) else none, ?_, .inl ⟨ob, hit⟩, ?_, ?_, fun _ => hk⟩
    · intro b
      by_cases e : b = a
      · subst e; exact .inr ⟨_, _, hit⟩
      · exact .inl (off b e)
    · intro b u z
      by_cases e : b = a
      · subst e
        rw [hit] at z
        cases z
        exact ⟨ha, by simpa using hl, vs, _, rv, ha⟩
      · rw [off b e] at z; cases z
    · intro b z
      by_cases e : b = a
      · exact e
      · exact absurd (off b e) z
  · cases q : K.lookup a with
    | none => exact absurd q hk
    | some o =>
      have e := KX a o q
      rw [ha] at e
      cases e
      refine ⟨fun _ => none, fun _ => .inl rfl, .inr ⟨_, vs.toArray, _, q, rfl, rfl, rfl, by rw [List.size_toArray, lv]; exact hl, by simpa using rv⟩, (fun b u z => nomatch z), (fun b z => absurd rfl z), fun z => absurd rfl z⟩
section
variable {P : Program} {w : World} {G : Gx} {T : Tab} {defs : Nat → Option Def} {W k fl : Nat} {x : Str} {mb : Str → Option Value} {fa a : Addr} {s : Shared} {vs : List Value} {ns : List Int}
theorem law_run (pr : Prog G T defs) (hf : T.funs.lookup fl = some (x, 1)) (KX : G.K.In s.heap) (hns : s.heap.Ns mainGlobals G.mg) (hb : s.heap.Ns builtinsNs mb) (hbb : ∀ y : Str, y ≠ "__name__" → mb y = bootBuiltins y) (hlim : s.heap.NoLimit) (hse : s.heap.NoSeer)
    (hg : s.gens = #[]) (ha : s.heap.get? a = some { cls := .type "list", data := .seq vs.toArray }) (hi : IntsAre vs ns) (hl : ns.length ≤ sizeLine) (hr : Room k callerA) (hfa : G.mg x = some (.ref fa))
    (law : ∃ S', callF defs W k fl [.con (ns.map D.int)] [] = .ok (.bl true) S') :
    codeAny (model P w) callerA (.call (.ref fa) ⟨[.ref a], []⟩) (fun r s' => r = .ok (.ret (.bool true)) ∧ OldK s.heap s'.heap ∧ s'.os = s.os ∧ AllBare s'.gens) s := by
  obtain ⟨H, Z⟩ := scr_of (P := P) (w := w) KX ha hi hl
  have dark : ∀ {b : Addr} {o : Obj} {es : Array DictEntry} {ep : Nat}, s.heap.get? b = some o → o.data = .dict es ep → H b = none := by
    intro b o es ep e d
    cases q : H b with
    | none => rfl
    | some u =>
      obtain rfl : b = a := Z.one b (by rw [q]; simp)
      rw [ha] at e
      cases e
      cases (show Data.seq vs.toArray _ = Data.dict es ep from d)
  have nsB : ∀ {b : Addr} {m : Str → Option Value}, s.heap.Ns b m → (hidT s.heap H).Ns b m := by
    rintro b m ⟨o, es, ep, e, d, r⟩
    exact ⟨o, es, ep, hidT_get e (dark e d), d, r⟩
  have kB : G.K.In (hidT s.heap H) := by
    intro b o e
    refine hidT_get (KX b o e) ?_
    cases q : H b with
    | none => rfl
    | some u =>
      obtain rfl : b = a := Z.one b (by rw [q]; simp)
      rw [Z.out (by rw [q]; simp)] at e
      cases e
  have md : Mod G.K G.mg (hidT s.heap H) := ⟨kB, nsB hns, ⟨mb, nsB hb, hbb⟩, by obtain ⟨mc, h1, h2⟩ := hlim; exact ⟨mc, nsB h1, h2⟩⟩
  have sm : SmOk (hidT s.heap H) := by
    obtain ⟨mm, h1, h2⟩ := hse.mods
    obtain ⟨o, es, ep, e, d, r⟩ := nsB h1
    exact ⟨o, es, ep, e, d⟩
  have e0 : Env0 P w G.K G.mg (hidT s.heap H) callerA [] s H := ⟨rfl, md, fun b o e => of_hidT e, by rw [hidT_size]; exact Nat.le_refl _, trivial, (fun b hb => nomatch hb), Z.hok, .of_eq hg⟩
  obtain ⟨a', fd, ps, h1, h2, h3, F⟩ := fn_all (P := P) (w := w) (W := W) pr sm k fl x 1 hf
  obtain rfl : fa = a' := by rw [hfa] at h1; cases h1; rfl
  obtain ⟨S', hlaw⟩ := law
  have sp : spF G ⟨callF defs W k⟩ fl 1 [.ref a] H (fun v _ => v = .bl true) (fun _ _ _ => False) := by
    refine ⟨rfl, [], [], [.con (ns.map D.int)], ⟨rfl, List.nodup_nil, fun n o a h => by simp at h⟩, .cons (.con Z.con (rep_ints ns)) .nil, ?_⟩
    show FinE G [] H (callF defs W k fl [.con (ns.map D.int)] []) _ _
    rw [hlaw]
    intro A' H' v _ _ p
    cases p
    rfl
  have hb' : BindsTo s fd ⟨[.ref a], []⟩ (ps.zip [.ref a]) := by
    have z := h3 s [.ref a] KX (by rw [← F.len _ _ _ _ sp]; rfl)
    simpa using z
  refine codeAny_mono (F.run callerA [] s H ⟨[.ref a], []⟩ [.ref a] [.ref a] _ _ hr rfl e0 hb' (.cons rfl .nil) sp) fun r s' h => ?_
  match r, h with
  | .error e, h =>
    obtain ⟨_, _, _, _, _, _, _, _, _, _, _, _, z⟩ := h
    exact z.elim
  | .ok .next, h => exact h.elim
  | .ok .brk, h => exact h.elim
  | .ok .cont, h => exact h.elim
  | .ok (.ret u), h =>
    obtain ⟨v, H', os, bare, un, hok', r', q⟩ := h
    have q : v = .bl true := q
    subst q
    obtain rfl : u = Value.bool true := r'
    refine ⟨rfl, OldK.of_keep fun b o e => ?_, os, bare⟩
    cases q : H b with
    | none => exact un.keep b o e q (by intro z; cases z) (by simp)
    | some u =>
      rcases Z.only b with z | ⟨ob, xs, z⟩
      · rw [q] at z; cases z
      · have e1 := (Z.hok b _ z).1
        have e2 := (hok' b _ (un.frzs b ob _ z)).1
        rw [e] at e1
        cases e1
        exact e2
end
/-- a law's end: the written part by the head, the plain law -/
theorem walkG {l : PySem.W.OpenLaw} {n k W fl : Nat} {q : Program} {loose : List Str} {XP : (Str → Option Value) → Heap → Prop} {YP : World → Heap → Prop} {d : DefRec} {T : Tab} {defs : Nat → Option Def}
    (hn : l.most = some n) (hn2 : n ≤ sizeLine) (hdf : d.params.defaults = []) (hr : Room k callerA) (hi : PyProof.Rows.importsNone q = true) (hf : T.funs.lookup fl = some (d.name, 1))
    (F : ∀ (w : World) (mg : Str → Option Value) (h : Heap), YP w h → h.Ns mainGlobals mg → ∃ G : Gx, G.mg = mg ∧ G.K.In h ∧ Prog G T defs)
    (law : ∀ ns : List Int, ns.length ≤ n → ∃ S', callF defs W k fl [.con (ns.map D.int)] [] = .ok (.bl true) S') :
    PySem.W.WalkO q loose XP YP l.row.toRowW d [] (fun f vs => PySem.call f vs) := by
  refine Att.attach_call hn hdf fun w s₀ s₁ mg mb fa o pm cd doc a vs ns gr Y ho hd hcd hmg hobj hints hlen hg => ?_
  obtain ⟨G, rfl, KX, pr⟩ := F w mg _ Y gr.T.g
  exact law_run (W := W) pr hf KX gr.T.g gr.T.b gr.T.builtins gr.T.nolimit (gr.T.seer hi) hg hobj hints (Nat.le_trans hlen hn2) hr hmg (law ns hlen)
end MP

namespace MP
open PySem PySem.Spec PyProof.Rows L2
/-- the facts that the head is asked -/
def faOf (T : Tab) : List He.Fa := T.funs.map (fun p => He.Fa.glo p.2.1) ++ T.free.map He.Fa.free ++ T.consts.map fun p => He.Fa.int p.1 p.2
theorem fact_mem {fa : List He.Fa} {fn : List He.DefD} {K : PySem.W.Frag} {f : He.Fa} (c : He.SaysD fa fn K) (h : f ∈ fa) : f.ok K = true := by
  obtain ⟨i, hi⟩ := List.mem_iff_getElem?.mp h
  exact c.fact i hi
theorem lookup_mem {l : List (Str × Int)} {x : Str} {i : Int} (h : l.lookup x = some i) : (x, i) ∈ l := by
  induction l with
  | nil => cases h
  | cons p l ih =>
    obtain ⟨y, j⟩ := p
    simp only [List.lookup] at h
    split at h
    · rename_i e
      cases h
      rw [eq_of_beq e]
      exact List.mem_cons_self
    · exact List.mem_cons_of_mem _ (ih h)
theorem lookupN_mem {l : List (Nat × Str × Nat)} {x : Nat} {i : Str × Nat} (h : l.lookup x = some i) : (x, i) ∈ l := by
  induction l with
  | nil => cases h
  | cons p l ih =>
    obtain ⟨y, j⟩ := p
    simp only [List.lookup] at h
    split at h
    · rename_i e
      cases h
      rw [eq_of_beq e]
      exact List.mem_cons_self
    · exact List.mem_cons_of_mem _ (ih h)
/-- one def of the text -/
def Pf (T : Tab) (K : PySem.W.Frag) (defs : Nat → Option Def) (p : Nat × Str × Nat) : Prop :=
  ∃ (d : Fd) (fd : FuncData), d.ok T = true ∧ defs p.1 = some d.c ∧ d.ps.length = p.2.2 ∧ FunD K p.2.1 p.2.1 d.d.params d.d.body d.d.scope [] [] (He.ga K p.2.1) fd ∧ Binds K fd d.ps []
theorem prog_of {T : Tab} {fn : List He.DefD} {K : PySem.W.Frag} {h : Heap} {mg : Str → Option Value} {defs : Nat → Option Def} {cl : Nat → Addr} (X : K.In h) (G : h.Ns mainGlobals mg) (c : He.SaysD (faOf T) fn K) (H : ∀ p ∈ T.funs, Pf T K defs p) : Prog ⟨K, mg, cl⟩ T defs := by
  refine ⟨fun f x m hf => ?_, fun x i hx => ?_, fun x hx => ?_⟩
  · obtain ⟨d, fd, h2, h3, h4, h5, h6⟩ := H (f, x, m) (lookupN_mem hf)
    refine ⟨d, fd, h2, h3, h4, ?_, h5, h6⟩
    exact He.glo_ok X G (fact_mem c (List.mem_append_left _ (List.mem_append_left _ (List.mem_map.mpr ⟨(f, x, m), lookupN_mem hf, rfl⟩))))
  · exact He.int_ok X G (fact_mem c (List.mem_append_right _ (List.mem_map.mpr ⟨(x, i), lookup_mem hx, rfl⟩)))
  · exact He.free_ok X G (fact_mem c (List.mem_append_left _ (List.mem_append_right _ (List.mem_map.mpr ⟨x, by simpa using hx, rfl⟩))))
end MP

namespace MP
open PySem L2
def WW : Nat := 100000
def k_is_whole : K := (.seq (.ret (.and (.blt .isi (.cons (.var 0) (.cons (.bty "int") .nil))) (.not (.blt .isi (.cons (.var 0) (.cons (.bty "bool") .nil)))))) .skip)
def c_is_whole : Def := ⟨1, 1, k_is_whole⟩
def k_is_within : K := (.seq (.ret (.and (.call 0 (.cons (.var 0) .nil)) (.cmp2 .LtE .LtE (.var 1) (.var 0) (.var 2)))) .skip)
def c_is_within : Def := ⟨3, 3, k_is_within⟩
def k_is_kind : K := (.seq (.ife (.or (.not (.blt .isi (.cons (.var 0) (.cons (.bty "tuple") .nil)))) (.or (.cmp .NotEq (.blt .len (.cons (.var 0) .nil)) (.val (.int 2))) (.not (.call 1 (.cons (.idx (.var 0) (.val (.int 0))) (.cons (.val (.int 1)) (.cons (.glo "MOST_LIMIT" (.int 999)) .nil))))))) (.seq (.ret (.val (.bl false))) .skip) .skip) (.seq (.set 1 (.idx (.var 0) (.val (.int 1)))) (.seq (.ife (.or (.not (.blt .isi (.cons (.var 1) (.cons (.bty "tuple") .nil)))) (.cmp .NotEq (.blt .len (.cons (.var 1) .nil)) (.bin .Add (.glo "MOST_COLD" (.int 3)) (.val (.int 1))))) (.seq (.ret (.val (.bl false))) .skip) .skip) (.seq (.ife (.not (.blt .all (.cons (.lc (.one 2) .seq (.cons (.var 1) .nil) .no (.call 1 (.cons (.var 2) (.cons (.val (.int 0)) (.cons (.glo "MOST_RATE" (.int 9)) .nil))))) .nil))) (.seq (.ret (.val (.bl false))) .skip) .skip) (.seq (.ret (.blt .all (.cons (.lc (.one 3) .rng (.cons (.val (.int 1)) (.cons (.blt .len (.cons (.var 1) .nil)) .nil)) .no (.cmp .LtE (.idx (.var 1) (.var 3)) (.idx (.var 1) (.bin .Sub (.var 3) (.val (.int 1)))))) .nil))) .skip)))))
def c_is_kind : Def := ⟨1, 4, k_is_kind⟩
def k_are_apart : K := (.seq (.ife (.not (.blt .isi (.cons (.var 1) (.cons (.bty "tuple") .nil)))) (.seq (.ret (.val (.bl false))) .skip) .skip) (.seq (.for_ (.one 2) .seq (.cons (.var 1) .nil) (.seq (.ife (.or (.not (.blt .isi (.cons (.var 2) (.cons (.bty "tuple") .nil)))) (.or (.cmp .NotEq (.blt .len (.cons (.var 2) .nil)) (.val (.int 2))) (.not (.blt .all (.cons (.lc (.one 3) .seq (.cons (.var 2) .nil) .no (.call 1 (.cons (.var 3) (.cons (.val (.int 0)) (.cons (.bin .Sub (.var 0) (.val (.int 1))) .nil))))) .nil))))) (.seq (.ret (.val (.bl false))) .skip) .skip) (.seq (.ife (.cmp .GtE (.idx (.var 2) (.val (.int 0))) (.idx (.var 2) (.val (.int 1)))) (.seq (.ret (.val (.bl false))) .skip) .skip) .skip))) (.seq (.ret (.blt .all (.cons (.lc (.one 4) .rng (.cons (.val (.int 1)) (.cons (.blt .len (.cons (.var 1) .nil)) .nil)) .no (.cmp .Lt (.idx (.var 1) (.bin .Sub (.var 4) (.val (.int 1)))) (.idx (.var 1) (.var 4)))) .nil))) .skip)))
def c_are_apart : Def := ⟨2, 5, k_are_apart⟩
def k_is_house : K := (.seq (.ife (.or (.not (.blt .isi (.cons (.var 0) (.cons (.bty "tuple") .nil)))) (.cmp .NotEq (.blt .len (.cons (.var 0) .nil)) (.val (.int 4)))) (.seq (.ret (.val (.bl false))) .skip) .skip) (.seq (.unp [1, 2, 3, 4] (.var 0)) (.seq (.ife (.or (.not (.blt .isi (.cons (.var 1) (.cons (.bty "tuple") .nil)))) (.not (.cmp2 .LtE .LtE (.val (.int 1)) (.blt .len (.cons (.var 1) .nil)) (.glo "MOST_ROOMS" (.int 5))))) (.seq (.ret (.val (.bl false))) .skip) .skip) (.seq (.ife (.not (.blt .all (.cons (.lc (.one 5) .seq (.cons (.var 1) .nil) .no (.call 1 (.cons (.var 5) (.cons (.val (.int 0)) (.cons (.glo "MOST_COLD" (.int 3)) .nil))))) .nil))) (.seq (.ret (.val (.bl false))) .skip) .skip) (.seq (.ife (.or (.not (.blt .isi (.cons (.var 2) (.cons (.bty "tuple") .nil)))) (.or (.not (.cmp2 .LtE .LtE (.val (.int 1)) (.blt .len (.cons (.var 2) .nil)) (.glo "MOST_KINDS" (.int 4)))) (.not (.blt .all (.cons (.lc (.one 6) .seq (.cons (.var 2) .nil) .no (.call 2 (.cons (.var 6) .nil))) .nil))))) (.seq (.ret (.val (.bl false))) .skip) .skip) (.seq (.ret (.and (.call 3 (.cons (.blt .len (.cons (.var 2) .nil)) (.cons (.var 3) .nil))) (.call 1 (.cons (.var 4) (.cons (.val (.int 1)) (.cons (.glo "MOST_HOLD" (.int 9)) .nil)))))) .skip))))))
def c_is_house : Def := ⟨1, 7, k_is_house⟩
def k__law_cell_at : K := (.seq (.ife (.cmp .Lt (.var 1) (.blt .len (.cons (.var 0) .nil))) (.seq (.ret (.idx (.var 0) (.var 1))) .skip) .skip) (.seq (.ret (.val (.int 0))) .skip))
def c__law_cell_at : Def := ⟨2, 2, k__law_cell_at⟩
def k__law_pot : K := (.seq (.ife (.cmp .GtE (.var 0) (.bin .Pow (.val (.int 10)) (.val (.int 18)))) (.seq (.ret (.lst (.cons (.bin .Sub (.var 0) (.bin .Pow (.val (.int 10)) (.val (.int 18)))) .nil))) .skip) .skip) (.seq (.set 1 (.val (.int 0))) (.seq (.for_ (.one 2) .rng (.cons (.val (.int 64)) .nil) (.seq (.set 3 (.bin .Mod (.bin .Mult (.bin .Add (.bin .Add (.bin .Mod (.var 0) (.val (.int 2147483629))) (.bin .Mult (.val (.int 7919)) (.var 2))) (.val (.int 1))) (.val (.int 48271))) (.val (.int 2147483647)))) (.seq (.set 3 (.bin .Mod (.bin .Add (.bin .Add (.bin .Mult (.var 3) (.var 3)) (.bin .Mult (.val (.int 69621)) (.var 2))) (.val (.int 7))) (.val (.int 2147483587)))) (.seq (.set 1 (.bin .Add (.bin .Mult (.var 1) (.val (.int 2147483587))) (.var 3))) .skip)))) (.seq (.ret (.lst (.cons (.var 1) .nil))) .skip))))
def c__law_pot : Def := ⟨1, 4, k__law_pot⟩
def k__law_take : K := (.seq (.set 2 (.bin .Mod (.idx (.var 0) (.val (.int 0))) (.var 1))) (.seq (.put (.var 0) (.val (.int 0)) (.bin .FloorDiv (.idx (.var 0) (.val (.int 0))) (.var 1))) (.seq (.ret (.var 2)) .skip)))
def c__law_take : Def := ⟨2, 3, k__law_take⟩
def k__law_whole : K := (.seq (.ret (.and (.blt .isi (.cons (.var 0) (.cons (.bty "int") .nil))) (.not (.blt .isi (.cons (.var 0) (.cons (.bty "bool") .nil)))))) .skip)
def c__law_whole : Def := ⟨1, 1, k__law_whole⟩
def k__law_within : K := (.seq (.ret (.and (.call 8 (.cons (.var 0) .nil)) (.cmp2 .LtE .LtE (.var 1) (.var 0) (.var 2)))) .skip)
def c__law_within : Def := ⟨3, 3, k__law_within⟩
def k__law_odd : K := (.seq (.set 1 (.lst (.cons (.val .non) (.cons (.val (.bl true)) (.cons (.val (.bl false)) (.cons (.neg (.val (.int 1))) (.cons (.bin .Pow (.val (.int 10)) (.val (.int 30))) (.cons (.val (.str "")) (.cons (.val (.str "a")) (.cons (.val (.str "1")) (.cons (.tup .nil) (.cons (.lst .nil) (.cons (.dct [] .nil) (.cons (.lst (.cons (.tup .nil) .nil)) (.cons (.tup (.cons (.tup .nil) .nil)) (.cons (.tup (.cons (.val (.int 0)) .nil)) (.cons (.lst (.cons (.val (.int 0)) .nil)) (.cons (.dct [(.inl 0)] (.cons (.val (.int 1)) .nil)) (.cons (.tup (.cons (.val (.bl true)) (.cons (.val (.bl true)) .nil))) .nil))))))))))))))))))) (.seq (.ret (.idx (.var 1) (.call 7 (.cons (.var 0) (.cons (.blt .len (.cons (.var 1) .nil)) .nil))))) .skip))
def c__law_odd : Def := ⟨1, 2, k__law_odd⟩
def k__law_bent : K := (.seq (.ife (.not (.blt .isi (.cons (.var 1) (.cons (.bty "tuple") .nil)))) (.seq (.ife (.and (.call 8 (.cons (.var 1) .nil)) (.cmp .Gt (.call 7 (.cons (.var 0) (.cons (.val (.int 3)) .nil))) (.val (.int 0)))) (.seq (.ret (.bin .Add (.var 1) (.idx (.lst (.cons (.val (.int 1)) (.cons (.neg (.val (.int 1))) (.cons (.val (.int 9)) (.cons (.val (.int 100)) (.cons (.val (.int 9999)) (.cons (.neg (.bin .Pow (.val (.int 10)) (.val (.int 4)))) .nil))))))) (.call 7 (.cons (.var 0) (.cons (.val (.int 6)) .nil)))))) .skip) .skip) (.seq (.ret (.call 10 (.cons (.var 0) .nil))) .skip)) .skip) (.seq (.set 2 (.call 7 (.cons (.var 0) (.cons (.val (.int 12)) .nil)))) (.seq (.ife (.or (.cmp .Eq (.var 2) (.val (.int 0))) (.cmp .Eq (.var 1) (.tup .nil))) (.seq (.ret (.idx (.lst (.cons (.call 10 (.cons (.var 0) .nil)) (.cons (.blt .list (.cons (.var 1) .nil)) (.cons (.bin .Add (.var 1) (.tup (.cons (.call 10 (.cons (.var 0) .nil)) .nil))) (.cons (.bin .Add (.var 1) (.slc (.var 1) (.neg (.val (.int 1))) .no)) .nil))))) (.call 7 (.cons (.var 0) (.cons (.val (.int 4)) .nil))))) .skip) .skip) (.seq (.set 3 (.call 7 (.cons (.var 0) (.cons (.blt .len (.cons (.var 1) .nil)) .nil)))) (.seq (.ife (.cmp .Eq (.var 2) (.val (.int 1))) (.seq (.ret (.bin .Add (.slc (.var 1) .no (.var 3)) (.slc (.var 1) (.bin .Add (.var 3) (.val (.int 1))) .no))) .skip) .skip) (.seq (.ife (.cmp .Eq (.var 2) (.val (.int 2))) (.seq (.ret (.bin .Add (.bin .Add (.slc (.var 1) .no (.var 3)) (.slc (.var 1) (.var 3) (.bin .Add (.var 3) (.val (.int 1))))) (.slc (.var 1) (.var 3) .no))) .skip) .skip) (.seq (.ret (.bin .Add (.bin .Add (.slc (.var 1) .no (.var 3)) (.tup (.cons (.call 11 (.cons (.var 0) (.cons (.idx (.var 1) (.var 3)) .nil))) .nil))) (.slc (.var 1) (.bin .Add (.var 3) (.val (.int 1))) .no))) .skip)))))))
def c__law_bent : Def := ⟨2, 4, k__law_bent⟩
def k__law_kind_of : K := (.seq (.set 1 (.idx (.lst (.cons (.val (.int 9)) (.cons (.val (.int 3)) (.cons (.val (.int 1)) (.cons (.val (.int 9)) .nil))))) (.call 7 (.cons (.var 0) (.cons (.val (.int 4)) .nil))))) (.seq (.set 2 (.rev (.blt .sorted (.cons (.lc (.one 3) .rng (.cons (.val (.int 4)) .nil) .no (.call 7 (.cons (.var 0) (.cons (.bin .Add (.var 1) (.val (.int 1))) .nil)))) .nil)))) (.seq (.ret (.tup (.cons (.idx (.lst (.cons (.val (.int 30)) (.cons (.bin .Add (.val (.int 1)) (.call 7 (.cons (.var 0) (.cons (.val (.int 20)) .nil)))) (.cons (.val (.int 999)) (.cons (.val (.int 8)) .nil))))) (.call 7 (.cons (.var 0) (.cons (.val (.int 4)) .nil)))) (.cons (.blt .tuple (.cons (.var 2) .nil)) .nil)))) .skip)))
def c__law_kind_of : Def := ⟨1, 4, k__law_kind_of⟩
def k__law_house : K := (.seq (.set 1 (.blt .tuple (.cons (.lc (.one 2) .rng (.cons (.bin .Add (.val (.int 1)) (.call 7 (.cons (.var 0) (.cons (.val (.int 5)) .nil)))) .nil) .no (.call 7 (.cons (.var 0) (.cons (.val (.int 4)) .nil)))) .nil))) (.seq (.set 3 (.blt .tuple (.cons (.lc (.one 4) .rng (.cons (.bin .Add (.val (.int 1)) (.call 7 (.cons (.var 0) (.cons (.val (.int 4)) .nil)))) .nil) .no (.call 12 (.cons (.var 0) .nil))) .nil))) (.seq (.set 5 (.lst .nil)) (.seq (.for_ (.one 6) .rng (.cons (.blt .len (.cons (.var 3) .nil)) .nil) (.seq (.set 5 (.bin .Add (.var 5) (.lc (.one 4) .rng (.cons (.var 6) .nil) (.cmp .Eq (.call 7 (.cons (.var 0) (.cons (.val (.int 3)) .nil))) (.val (.int 0))) (.tup (.cons (.var 4) (.cons (.var 6) .nil)))))) .skip)) (.seq (.ret (.tup (.cons (.var 1) (.cons (.var 3) (.cons (.blt .tuple (.cons (.blt .sorted (.cons (.var 5) .nil)) .nil)) (.cons (.idx (.lst (.cons (.val (.int 1)) (.cons (.val (.int 2)) (.cons (.val (.int 9)) (.cons (.bin .Add (.val (.int 1)) (.call 7 (.cons (.var 0) (.cons (.val (.int 9)) .nil)))) .nil))))) (.call 7 (.cons (.var 0) (.cons (.val (.int 4)) .nil)))) .nil)))))) .skip)))))
def c__law_house : Def := ⟨1, 7, k__law_house⟩
def k__law_is_kind : K := (.seq (.ife (.or (.not (.blt .isi (.cons (.var 0) (.cons (.bty "tuple") .nil)))) (.or (.cmp .NotEq (.blt .len (.cons (.var 0) .nil)) (.val (.int 2))) (.not (.call 9 (.cons (.idx (.var 0) (.val (.int 0))) (.cons (.val (.int 1)) (.cons (.val (.int 999)) .nil))))))) (.seq (.ret (.val (.bl false))) .skip) .skip) (.seq (.ife (.or (.not (.blt .isi (.cons (.idx (.var 0) (.val (.int 1))) (.cons (.bty "tuple") .nil)))) (.cmp .NotEq (.blt .len (.cons (.idx (.var 0) (.val (.int 1))) .nil)) (.val (.int 4)))) (.seq (.ret (.val (.bl false))) .skip) .skip) (.seq (.ife (.cmp .NotEq (.lc (.one 1) .seq (.cons (.idx (.var 0) (.val (.int 1))) .nil) (.not (.call 9 (.cons (.var 1) (.cons (.val (.int 0)) (.cons (.val (.int 9)) .nil))))) (.var 1)) (.lst .nil)) (.seq (.ret (.val (.bl false))) .skip) .skip) (.seq (.ret (.cmp .Eq (.blt .list (.cons (.idx (.var 0) (.val (.int 1))) .nil)) (.rev (.blt .sorted (.cons (.idx (.var 0) (.val (.int 1))) .nil))))) .skip))))
def c__law_is_kind : Def := ⟨1, 2, k__law_is_kind⟩
def k__law_is_house : K := (.seq (.ife (.or (.not (.blt .isi (.cons (.var 0) (.cons (.bty "tuple") .nil)))) (.or (.cmp .NotEq (.blt .len (.cons (.var 0) .nil)) (.val (.int 4))) (.not (.blt .all (.cons (.lc (.one 1) .seq (.cons (.slc (.var 0) .no (.val (.int 3))) .nil) .no (.blt .isi (.cons (.var 1) (.cons (.bty "tuple") .nil)))) .nil))))) (.seq (.ret (.val (.bl false))) .skip) .skip) (.seq (.unp [2, 3, 4, 5] (.var 0)) (.seq (.ife (.or (.not (.cmp2 .LtE .LtE (.val (.int 1)) (.blt .len (.cons (.var 2) .nil)) (.val (.int 5)))) (.cmp .NotEq (.lc (.one 6) .seq (.cons (.var 2) .nil) (.not (.call 9 (.cons (.var 6) (.cons (.val (.int 0)) (.cons (.val (.int 3)) .nil))))) (.var 6)) (.lst .nil))) (.seq (.ret (.val (.bl false))) .skip) .skip) (.seq (.ife (.or (.not (.cmp2 .LtE .LtE (.val (.int 1)) (.blt .len (.cons (.var 3) .nil)) (.val (.int 4)))) (.cmp .NotEq (.lc (.one 7) .seq (.cons (.var 3) .nil) (.not (.call 14 (.cons (.var 7) .nil))) (.var 7)) (.lst .nil))) (.seq (.ret (.val (.bl false))) .skip) .skip) (.seq (.set 8 (.tup (.cons (.neg (.val (.int 1))) (.cons (.neg (.val (.int 1))) .nil)))) (.seq (.for_ (.one 9) .seq (.cons (.var 4) .nil) (.seq (.ife (.or (.not (.blt .isi (.cons (.var 9) (.cons (.bty "tuple") .nil)))) (.or (.cmp .NotEq (.blt .len (.cons (.var 9) .nil)) (.val (.int 2))) (.not (.call 9 (.cons (.idx (.var 9) (.val (.int 0))) (.cons (.val (.int 0)) (.cons (.bin .Sub (.blt .len (.cons (.var 3) .nil)) (.val (.int 1))) .nil))))))) (.seq (.ret (.val (.bl false))) .skip) .skip) (.seq (.ife (.or (.not (.call 9 (.cons (.idx (.var 9) (.val (.int 1))) (.cons (.bin .Add (.idx (.var 9) (.val (.int 0))) (.val (.int 1))) (.cons (.bin .Sub (.blt .len (.cons (.var 3) .nil)) (.val (.int 1))) .nil))))) (.cmp .LtE (.var 9) (.var 8))) (.seq (.ret (.val (.bl false))) .skip) .skip) (.seq (.set 8 (.var 9)) .skip)))) (.seq (.ret (.call 9 (.cons (.var 5) (.cons (.val (.int 1)) (.cons (.val (.int 9)) .nil))))) .skip)))))))
def c__law_is_house : Def := ⟨1, 10, k__law_is_house⟩
def k__law_near_bounds : K := (.seq (.unp [2, 3, 4, 5] (.var 1)) (.seq (.unp [6, 7] (.idx (.var 3) (.val (.int 0)))) (.seq (.set 8 (.call 7 (.cons (.var 0) (.cons (.blt .len (.cons (.var 2) .nil)) .nil)))) (.seq (.set 9 (.lc (.one 10) .seq (.cons (.lst (.cons (.neg (.val (.int 1))) (.cons (.val (.int 0)) (.cons (.val (.int 3)) (.cons (.val (.int 4)) (.cons (.val (.bl true)) .nil)))))) .nil) .no (.tup (.cons (.bin .Add (.bin .Add (.slc (.var 2) .no (.var 8)) (.tup (.cons (.var 10) .nil))) (.slc (.var 2) (.bin .Add (.var 8) (.val (.int 1))) .no)) (.cons (.var 3) (.cons (.var 4) (.cons (.var 5) .nil))))))) (.seq (.set 9 (.bin .Add (.var 9) (.lc (.one 11) .seq (.cons (.lst (.cons (.val (.int 0)) (.cons (.val (.int 1)) (.cons (.val (.int 5)) (.cons (.val (.int 6)) .nil))))) .nil) .no (.tup (.cons (.slc (.bin .Mult (.var 2) (.val (.int 6))) .no (.var 11)) (.cons (.var 3) (.cons (.var 4) (.cons (.var 5) .nil)))))))) (.seq (.set 9 (.bin .Add (.var 9) (.lc (.one 12) .seq (.cons (.lst (.cons (.val (.int 0)) (.cons (.val (.int 1)) (.cons (.val (.int 9)) (.cons (.val (.int 10)) (.cons (.val (.bl true)) .nil)))))) .nil) .no (.tup (.cons (.var 2) (.cons (.var 3) (.cons (.var 4) (.cons (.var 12) .nil)))))))) (.seq (.set 9 (.bin .Add (.var 9) (.lc (.one 12) .seq (.cons (.lst (.cons (.val (.int 0)) (.cons (.val (.int 1)) (.cons (.val (.int 999)) (.cons (.val (.int 1000)) .nil))))) .nil) .no (.tup (.cons (.var 2) (.cons (.bin .Add (.tup (.cons (.tup (.cons (.var 12) (.cons (.var 7) .nil))) .nil)) (.slc (.var 3) (.val (.int 1)) .no)) (.cons (.var 4) (.cons (.var 5) .nil)))))))) (.seq (.for_ (.one 13) .seq (.cons (.lst (.cons (.tup (.cons (.val (.int 9)) (.cons (.val (.int 9)) (.cons (.val (.int 9)) (.cons (.val (.int 9)) .nil))))) (.cons (.tup (.cons (.val (.int 0)) (.cons (.val (.int 0)) (.cons (.val (.int 0)) (.cons (.val (.int 0)) .nil))))) (.cons (.tup (.cons (.val (.int 10)) (.cons (.val (.int 9)) (.cons (.val (.int 9)) (.cons (.val (.int 9)) .nil))))) (.cons (.tup (.cons (.val (.int 3)) (.cons (.val (.int 2)) (.cons (.val (.int 1)) (.cons (.neg (.val (.int 1))) .nil))))) (.cons (.tup (.cons (.val (.int 3)) (.cons (.val (.int 3)) (.cons (.val (.int 4)) (.cons (.val (.int 2)) .nil))))) (.cons (.tup (.cons (.val (.int 4)) (.cons (.val (.int 3)) (.cons (.val (.int 2)) .nil)))) (.cons (.tup (.cons (.val (.int 4)) (.cons (.val (.int 3)) (.cons (.val (.int 2)) (.cons (.val (.int 1)) (.cons (.val (.int 0)) .nil)))))) .nil)))))))) .nil) (.seq (.expr (.mth .append (.var 9) (.cons (.tup (.cons (.var 2) (.cons (.bin .Add (.tup (.cons (.tup (.cons (.var 6) (.cons (.var 13) .nil))) .nil)) (.slc (.var 3) (.val (.int 1)) .no)) (.cons (.var 4) (.cons (.var 5) .nil))))) .nil))) .skip)) (.seq (.set 14 (.slc (.bin .Mult (.var 3) (.val (.int 5))) .no (.val (.int 5)))) (.seq (.for_ (.one 13) .seq (.cons (.lst (.cons (.var 14) (.cons (.slc (.var 14) .no (.val (.int 4))) (.cons (.tup .nil) (.cons (.blt .list (.cons (.var 3) .nil)) (.cons (.slc (.var 3) .no (.val (.int 1))) .nil)))))) .nil) (.seq (.expr (.mth .append (.var 9) (.cons (.tup (.cons (.var 2) (.cons (.var 13) (.cons (.tup .nil) (.cons (.var 5) .nil))))) .nil))) .skip)) (.seq (.set 15 (.slc (.bin .Mult (.var 3) (.val (.int 2))) .no (.val (.int 2)))) (.seq (.for_ (.one 13) .seq (.cons (.lst (.cons (.tup .nil) (.cons (.tup (.cons (.tup (.cons (.val (.int 0)) (.cons (.val (.int 1)) .nil))) .nil)) (.cons (.tup (.cons (.tup (.cons (.val (.int 1)) (.cons (.val (.int 0)) .nil))) .nil)) (.cons (.tup (.cons (.tup (.cons (.val (.int 0)) (.cons (.val (.int 0)) .nil))) .nil)) (.cons (.tup (.cons (.tup (.cons (.val (.int 0)) (.cons (.val (.int 1)) .nil))) (.cons (.tup (.cons (.val (.int 0)) (.cons (.val (.int 1)) .nil))) .nil))) (.cons (.tup (.cons (.tup (.cons (.val (.int 0)) (.cons (.val (.int 2)) .nil))) .nil)) (.cons (.tup (.cons (.tup (.cons (.neg (.val (.int 1))) (.cons (.val (.int 0)) .nil))) .nil)) (.cons (.lst (.cons (.tup (.cons (.val (.int 0)) (.cons (.val (.int 1)) .nil))) .nil)) (.cons (.tup (.cons (.tup (.cons (.val (.int 0)) .nil)) .nil)) .nil)))))))))) .nil) (.seq (.expr (.mth .append (.var 9) (.cons (.tup (.cons (.var 2) (.cons (.var 15) (.cons (.var 13) (.cons (.var 5) .nil))))) .nil))) .skip)) (.seq (.set 16 (.slc (.bin .Mult (.var 3) (.val (.int 3))) .no (.val (.int 3)))) (.seq (.for_ (.one 13) .seq (.cons (.lst (.cons (.tup (.cons (.tup (.cons (.val (.int 0)) (.cons (.val (.int 2)) .nil))) (.cons (.tup (.cons (.val (.int 1)) (.cons (.val (.int 2)) .nil))) .nil))) (.cons (.tup (.cons (.tup (.cons (.val (.int 1)) (.cons (.val (.int 2)) .nil))) (.cons (.tup (.cons (.val (.int 0)) (.cons (.val (.int 2)) .nil))) .nil))) (.cons (.tup (.cons (.tup (.cons (.val (.int 0)) (.cons (.val (.int 1)) .nil))) (.cons (.tup (.cons (.val (.int 0)) (.cons (.val (.int 2)) .nil))) (.cons (.tup (.cons (.val (.int 1)) (.cons (.val (.int 2)) .nil))) .nil)))) .nil)))) .nil) (.seq (.expr (.mth .append (.var 9) (.cons (.tup (.cons (.var 2) (.cons (.var 16) (.cons (.var 13) (.cons (.var 5) .nil))))) .nil))) .skip)) (.seq (.ret (.var 9)) .skip)))))))))))))))
def c__law_near_bounds : Def := ⟨2, 17, k__law_near_bounds⟩
def k_law : K := (.seq (.for_ (.one 1) .rng (.cons (.blt .max2 (.cons (.val (.int 1)) (.cons (.blt .min2 (.cons (.blt .len (.cons (.var 0) .nil)) (.cons (.val (.int 16)) .nil))) .nil))) .nil) (.seq (.set 2 (.call 6 (.cons (.call 5 (.cons (.var 0) (.cons (.var 1) .nil))) .nil))) (.seq (.set 3 (.call 13 (.cons (.var 2) .nil))) (.seq (.ife (.cmp .IsNot (.call 4 (.cons (.var 3) .nil)) (.val (.bl true))) (.seq (.ret (.val (.bl false))) .skip) .skip) (.seq (.set 4 (.bin .Add (.lst (.cons (.call 10 (.cons (.var 2) .nil)) (.cons (.blt .list (.cons (.var 3) .nil)) .nil))) (.call 16 (.cons (.var 2) (.cons (.var 3) .nil))))) (.seq (.for_ (.one 5) .rng (.cons (.val (.int 6)) .nil) (.seq (.set 6 (.var 3)) (.seq (.for_ (.one 7) .rng (.cons (.bin .Add (.val (.int 1)) (.call 7 (.cons (.var 2) (.cons (.val (.int 3)) .nil)))) .nil) (.seq (.set 6 (.call 11 (.cons (.var 2) (.cons (.var 6) .nil)))) .skip)) (.seq (.expr (.mth .append (.var 4) (.cons (.var 6) .nil))) .skip)))) (.seq (.for_ (.one 8) .seq (.cons (.var 4) .nil) (.seq (.set 9 (.blt .repr (.cons (.var 8) .nil))) (.seq (.ife (.or (.cmp .NotEq (.blt .repr (.cons (.call 4 (.cons (.var 8) .nil)) .nil)) (.blt .repr (.cons (.call 15 (.cons (.var 8) .nil)) .nil))) (.cmp .NotEq (.blt .repr (.cons (.var 8) .nil)) (.var 9))) (.seq (.ret (.val (.bl false))) .skip) .skip) .skip))) .skip))))))) (.seq (.ret (.val (.bl true))) .skip))
def c_law : Def := ⟨1, 10, k_law⟩
def tbl0 : List (Nat × Def) := [(0, c_is_whole), (1, c_is_within), (2, c_is_kind), (3, c_are_apart), (4, c_is_house), (5, c__law_cell_at), (6, c__law_pot), (7, c__law_take), (8, c__law_whole), (9, c__law_within), (10, c__law_odd), (11, c__law_bent), (12, c__law_kind_of), (13, c__law_house), (14, c__law_is_kind), (15, c__law_is_house), (16, c__law_near_bounds), (17, c_law)]
def DEFS : Nat → Option Def := fun f => List.lookup f (tbl0)
abbrev i_is_whole : Nat := 0
theorem D_is_whole : DEFS 0 = some c_is_whole := rfl
abbrev i_is_within : Nat := 1
theorem D_is_within : DEFS 1 = some c_is_within := rfl
abbrev i_is_kind : Nat := 2
theorem D_is_kind : DEFS 2 = some c_is_kind := rfl
abbrev i_are_apart : Nat := 3
theorem D_are_apart : DEFS 3 = some c_are_apart := rfl
abbrev i_is_house : Nat := 4
theorem D_is_house : DEFS 4 = some c_is_house := rfl
abbrev i__law_cell_at : Nat := 5
theorem D__law_cell_at : DEFS 5 = some c__law_cell_at := rfl
abbrev i__law_pot : Nat := 6
theorem D__law_pot : DEFS 6 = some c__law_pot := rfl
abbrev i__law_take : Nat := 7
theorem D__law_take : DEFS 7 = some c__law_take := rfl
abbrev i__law_whole : Nat := 8
theorem D__law_whole : DEFS 8 = some c__law_whole := rfl
abbrev i__law_within : Nat := 9
theorem D__law_within : DEFS 9 = some c__law_within := rfl
abbrev i__law_odd : Nat := 10
theorem D__law_odd : DEFS 10 = some c__law_odd := rfl
abbrev i__law_bent : Nat := 11
theorem D__law_bent : DEFS 11 = some c__law_bent := rfl
abbrev i__law_kind_of : Nat := 12
theorem D__law_kind_of : DEFS 12 = some c__law_kind_of := rfl
abbrev i__law_house : Nat := 13
theorem D__law_house : DEFS 13 = some c__law_house := rfl
abbrev i__law_is_kind : Nat := 14
theorem D__law_is_kind : DEFS 14 = some c__law_is_kind := rfl
abbrev i__law_is_house : Nat := 15
theorem D__law_is_house : DEFS 15 = some c__law_is_house := rfl
abbrev i__law_near_bounds : Nat := 16
theorem D__law_near_bounds : DEFS 16 = some c__law_near_bounds := rfl
abbrev i_law : Nat := 17
theorem D_law : DEFS 17 = some c_law := rfl
end MP

namespace MP
open PySem L2
theorem eqI {α : Type} {a b : α} (h : a = b) : a = b := h
section
variable {α β : Type} {Γ : Cal} {W : Nat} {r : Env} {S : Store}
@[simp] theorem bind_ok (a : α) (S : Store) (f : α → Store → Res β) : (Res.ok a S).bind f = f a S := eqI rfl
@[simp] theorem bind_bad (f : α → Store → Res β) : (Res.bad).bind f = .bad := eqI rfl
@[simp] theorem bind_exc (c : Str) (S : Store) (f : α → Store → Res β) : (Res.exc c S).bind f = .exc c S := eqI rfl
def thenS (r : Res Fl) (f : Env → Store → Res Fl) : Res Fl := r.bind fun g S => match g with
    | .nx r => f r S
    | .rt d => .ok (.rt d) S
    | .ct r => .ok (.ct r) S
@[simp] theorem then_nx (r : Env) (S : Store) (f : Env → Store → Res Fl) : thenS (.ok (.nx r) S) f = f r S := eqI rfl
@[simp] theorem then_rt (d : D) (S : Store) (f : Env → Store → Res Fl) : thenS (.ok (.rt d) S) f = .ok (.rt d) S := eqI rfl
@[simp] theorem then_ct (r : Env) (S : Store) (f : Env → Store → Res Fl) : thenS (.ok (.ct r) S) f = .ok (.ct r) S := eqI rfl
/-! what follows, by name: so that simp does not look ahead -/
def kA (g : Store → Res D) (h : D → D → Store → Res D) (x : D) (S : Store) : Res D := (g S).bind (h x)
@[simp] theorem kA_eq (g : Store → Res D) (h : D → D → Store → Res D) (x : D) (S : Store) : kA g h x S = (g S).bind (h x) := eqI rfl
def kT (f g : Store → Res α) (x : D) (S : Store) : Res α := truD x S f g
@[simp] theorem kT_t (f g : Store → Res α) (S : Store) : kT f g (.bl true) S = f S := eqI rfl
@[simp] theorem kT_f (f g : Store → Res α) (S : Store) : kT f g (.bl false) S = g S := eqI rfl
@[simp] theorem kT_n (f g : Store → Res α) (b : Bool) (S : Store) : kT f g (.bl (!b)) S = kT g f (.bl b) S := by cases b <;> rfl
def retB (b : Bool) (S : Store) : Res D := .ok (.bl b) S
@[simp] theorem retB_eq (b : Bool) (S : Store) : retB b S = .ok (.bl b) S := eqI rfl
def kC2 (g : Store → Res D) (op : CmpOp) (y : D) (S : Store) : Res D := (g S).bind (cmpD op y)
@[simp] theorem kC2_eq (g : Store → Res D) (op : CmpOp) (y : D) (S : Store) : kC2 g op y S = (g S).bind (cmpD op y) := eqI rfl
def kC (op op' : CmpOp) (g : Store → Res D) (x y : D) (S : Store) : Res D := (cmpD op x y S).bind (kT (kC2 g op' y) (retB false))
@[simp] theorem kC_eq (op op' : CmpOp) (g : Store → Res D) (x y : D) (S : Store) : kC op op' g x y S = (cmpD op x y S).bind (kT (kC2 g op' y) (retB false)) := eqI rfl
def negD (x : D) (S : Store) : Res D := match x with
    | .int i => .ok (.int (-i)) S
    | _ => .bad
@[simp] theorem negD_int (i : Int) (S : Store) : negD (.int i) S = .ok (.int (-i)) S := eqI rfl
def notD (x : D) (S : Store) : Res D := match x with
    | .bl b => .ok (.bl (!b)) S
    | _ => .bad
@[simp] theorem notD_bl (b : Bool) (S : Store) : notD (.bl b) S = .ok (.bl (!b)) S := eqI rfl
def tupR (ds : List D) (S : Store) : Res D := .ok (.tup ds) S
@[simp] theorem tupR_eq (ds : List D) (S : Store) : tupR ds S = .ok (.tup ds) S := eqI rfl
def dctR (ks : List Key) (ds : List D) (S : Store) : Res D := .ok (.ref S.length) (S ++ [.dic (ks.zip ds)])
@[simp] theorem dctR_eq (ks : List Key) (ds : List D) (S : Store) : dctR ks ds S = .ok (.ref S.length) (S ++ [.dic (ks.zip ds)]) := eqI rfl
def kM (m : Bm) (g : Store → Res (List D)) (x : D) (S : Store) : Res D := if m.ty == kindD x S then (g S).bind (mthD m x) else .bad
def kS2 (g : Store → Res (Option Int)) (x : D) (l : Option Int) (S : Store) : Res D := (g S).bind (slcD x l)
@[simp] theorem kS2_eq (g : Store → Res (Option Int)) (x : D) (l : Option Int) (S : Store) : kS2 g x l S = (g S).bind (slcD x l) := eqI rfl
def kS1 (f g : Store → Res (Option Int)) (x : D) (S : Store) : Res D := (f S).bind (kS2 g x)
@[simp] theorem kS1_eq (f g : Store → Res (Option Int)) (x : D) (S : Store) : kS1 f g x S = (f S).bind (kS2 g x) := eqI rfl
def consR (x : D) (xs : List D) (S : Store) : Res (List D) := .ok (x :: xs) S
@[simp] theorem consR_eq (x : D) (xs : List D) (S : Store) : consR x xs S = .ok (x :: xs) S := eqI rfl
def kCons (g : Store → Res (List D)) (x : D) (S : Store) : Res (List D) := (g S).bind (consR x)
@[simp] theorem kCons_eq (g : Store → Res (List D)) (x : D) (S : Store) : kCons g x S = (g S).bind (consR x) := eqI rfl
def boundR (d : D) (S : Store) : Res (Option Int) := match d with
    | .int i => .ok (some i) S
    | _ => .bad
@[simp] theorem boundR_int (i : Int) (S : Store) : boundR (.int i) S = .ok (some i) S := eqI rfl
def nxR (r : Env) (x : D) (S : Store) : Res Fl := .ok (.nx r) S
@[simp] theorem nxR_eq (r : Env) (x : D) (S : Store) : nxR r x S = .ok (.nx r) S := eqI rfl
def setR (r : Env) (i : Nat) (x : D) (S : Store) : Res Fl := .ok (.nx (r.set i (some x))) S
@[simp] theorem setR_eq (r : Env) (i : Nat) (x : D) (S : Store) : setR r i x S = .ok (.nx (r.set i (some x))) S := eqI rfl
def envR (o : Option Env) (S : Store) : Res Fl := match o with
    | some r' => .ok (.nx r') S
    | none => .bad
@[simp] theorem envR_some (r : Env) (S : Store) : envR (some r) S = .ok (.nx r) S := eqI rfl
def unpR (is : List Nat) (r : Env) (x : D) (S : Store) : Res Fl := envR ((Tg.many is).set x r) S
def parR (is : List Nat) (r : Env) (ds : List D) (S : Store) : Res Fl := envR (setAll is ds r) S
@[simp] theorem parR_eq (is : List Nat) (r : Env) (ds : List D) (S : Store) : parR is r ds S = envR (setAll is ds r) S := eqI rfl
@[simp] theorem unpR_tup (is : List Nat) (r : Env) (ds : List D) (S : Store) : unpR is r (.tup ds) S = if ds.length = is.length then envR (setAll is ds r) S else .bad := by
  unfold unpR Tg.set
  by_cases h : ds.length = is.length <;> simp [h] <;> rfl
@[simp] theorem setAll_nil (r : Env) : setAll [] [] r = some r := eqI rfl
@[simp] theorem setAll_cons (i : Nat) (is : List Nat) (d : D) (ds : List D) (r : Env) : setAll (i :: is) (d :: ds) r = setAll is ds (r.set i (some d)) := eqI rfl
def storR (r : Env) (o : Option Store) : Res Fl := match o with
    | some S' => .ok (.nx r) S'
    | none => .bad
@[simp] theorem storR_some (r : Env) (S : Store) : storR r (some S) = .ok (.nx r) S := eqI rfl
def kP2 (g : Store → Res D) (r : Env) (v x : D) (S : Store) : Res Fl := (g S).bind fun i S => storR r (putD S x i v)
def kP1 (f g : Store → Res D) (r : Env) (v : D) (S : Store) : Res Fl := (f S).bind (kP2 g r v)
@[simp] theorem kP1_eq (f g : Store → Res D) (r : Env) (v : D) (S : Store) : kP1 f g r v S = (f S).bind (kP2 g r v) := eqI rfl
def putR (r : Env) (v x i : D) (S : Store) : Res Fl := storR r (putD S x i v)
@[simp] theorem putR_eq (r : Env) (v x i : D) (S : Store) : putR r v x i S = storR r (putD S x i v) := eqI rfl
@[simp] theorem kP2_eq (g : Store → Res D) (r : Env) (v x : D) (S : Store) : kP2 g r v x S = (g S).bind (putR r v x) := eqI rfl
def rtR (x : D) (S : Store) : Res Fl := .ok (.rt x) S
@[simp] theorem rtR_eq (x : D) (S : Store) : rtR x S = .ok (.rt x) S := eqI rfl
@[simp] theorem noX_ok (a : α) : (Res.ok a S).noX = .ok a S := eqI rfl
@[simp] theorem ofO_some (a : α) (f : α → D) : ofO (some a) f S = .ok (f a) S := eqI rfl
def getR : Env → Nat → Store → Res D
  | some d :: _, 0, S => .ok d S
  | _ :: r, i + 1, S => getR r i S
  | _, _, _ => .bad
@[simp] theorem getR_0 (d : D) (r : Env) : getR (some d :: r) 0 S = .ok d S := eqI rfl
@[simp] theorem getR_s (d : Option D) (r : Env) (i : Nat) : getR (d :: r) (i + 1) S = getR r i S := by cases d <;> rfl
@[simp] theorem e_var (i : Nat) : evE Γ (.var i) r S = getR r i S := by
  simp only [evE]
  induction r generalizing i with
  | nil => simp [getR]
  | cons o r ih =>
    cases i with
    | zero => cases o <;> simp [getR]
    | succ i => rw [getR_s, ← ih]; simp
@[simp] theorem e_val (d : D) : evE Γ (.val d) r S = .ok d S := by simp only [evE]
@[simp] theorem e_glo (x : Str) (d : D) : evE Γ (.glo x d) r S = .ok d S := by simp only [evE]
@[simp] theorem e_bty (x : String) : evE Γ (.bty x) r S = .ok (.ty x) S := by simp only [evE]
@[simp] theorem e_bin (op : Operator) (a b : C) : evE Γ (.bin op a b) r S = (evE Γ a r S).bind (kA (evE Γ b r) (binD op)) := by simp only [evE] <;> rfl
@[simp] theorem e_neg (a : C) : evE Γ (.neg a) r S = (evE Γ a r S).bind negD := by simp only [evE] <;> rfl
@[simp] theorem e_not (a : C) : evE Γ (.not a) r S = (evE Γ a r S).bind notD := by simp only [evE] <;> rfl
@[simp] theorem e_and (a b : C) : evE Γ (.and a b) r S = (evE Γ a r S).bind (kT (evE Γ b r) (retB false)) := by simp only [evE] <;> rfl
@[simp] theorem e_or (a b : C) : evE Γ (.or a b) r S = (evE Γ a r S).bind (kT (retB true) (evE Γ b r)) := by simp only [evE] <;> rfl
@[simp] theorem e_cmp (op : CmpOp) (a b : C) : evE Γ (.cmp op a b) r S = (evE Γ a r S).bind (kA (evE Γ b r) (cmpD op)) := by simp only [evE] <;> rfl
@[simp] theorem e_cmp2 (op op' : CmpOp) (a b c : C) : evE Γ (.cmp2 op op' a b c) r S = (evE Γ a r S).bind (kA (evE Γ b r) (kC op op' (evE Γ c r))) := by simp only [evE] <;> rfl
@[simp] theorem e_ite (t a b : C) : evE Γ (.ite t a b) r S = (evE Γ t r S).bind (kT (evE Γ a r) (evE Γ b r)) := by simp only [evE] <;> rfl
@[simp] theorem e_tup (as : C) : evE Γ (.tup as) r S = (evA Γ as r S).bind tupR := by simp only [evE] <;> rfl
@[simp] theorem e_lst (as : C) : evE Γ (.lst as) r S = (evA Γ as r S).bind newL := by simp only [evE] <;> rfl
@[simp] theorem e_dct (ks : List Key) (as : C) : evE Γ (.dct ks as) r S = (evA Γ as r S).bind (dctR ks) := by simp only [evE] <;> rfl
@[simp] theorem e_call (f : Nat) (as : C) : evE Γ (.call f as) r S = (evA Γ as r S).bind (Γ.call f) := by simp only [evE] <;> rfl
@[simp] theorem e_blt (f : Bf) (as : C) : evE Γ (.blt f as) r S = (evA Γ as r S).bind (bltD f) := by simp only [evE] <;> rfl
@[simp] theorem e_mth (m : Bm) (o as : C) : evE Γ (.mth m o as) r S = (evE Γ o r S).bind (kM m (evA Γ as r)) := by simp only [evE] <;> rfl
@[simp] theorem e_idx (a b : C) : evE Γ (.idx a b) r S = (evE Γ a r S).bind (kA (evE Γ b r) idxD) := by simp only [evE] <;> rfl
@[simp] theorem e_slc (a lo hi : C) : evE Γ (.slc a lo hi) r S = (evE Γ a r S).bind (kS1 (evB lo.isNo (evE Γ lo r)) (evB hi.isNo (evE Γ hi r))) := by simp only [evE] <;> rfl
@[simp] theorem e_rev (a : C) : evE Γ (.rev a) r S = (evE Γ a r S).bind revD := by simp only [evE] <;> rfl
@[simp] theorem e_no : evE Γ .no r S = .ok (.bl true) S := by simp only [evE]
@[simp] theorem a_nil : evA Γ .nil r S = .ok [] S := by simp only [evA]
@[simp] theorem a_cons (a as : C) : evA Γ (.cons a as) r S = (evE Γ a r S).bind (kCons (evA Γ as r)) := by simp only [evA] <;> rfl
@[simp] theorem b_no (f : Store → Res D) : evB true f S = .ok none S := eqI rfl
@[simp] theorem b_so (f : Store → Res D) : evB false f S = (f S).bind boundR := eqI rfl
@[simp] theorem isNo_no : C.no.isNo = true := eqI rfl
@[simp] theorem isNo_var (i : Nat) : (C.var i).isNo = false := eqI rfl
@[simp] theorem isNo_val (i : D) : (C.val i).isNo = false := eqI rfl
@[simp] theorem isNo_bin (op : Operator) (a b : C) : (C.bin op a b).isNo = false := eqI rfl
@[simp] theorem isNo_neg (a : C) : (C.neg a).isNo = false := eqI rfl
@[simp] theorem isNo_blt (f : Bf) (a : C) : (C.blt f a).isNo = false := eqI rfl
@[simp] theorem isNo_idx (f a : C) : (C.idx f a).isNo = false := eqI rfl
@[simp] theorem isNo_call (f : Nat) (a : C) : (C.call f a).isNo = false := eqI rfl
/-! values -/
@[simp] theorem pb_len (x : D) : bltD .len [x] S = ofO (lenD S x) (fun n => .int n) S := eqI rfl
@[simp] theorem pb_isi (x c : D) : bltD .isi [x, c] S = ofO (isiD S x c) D.bl S := eqI rfl
@[simp] theorem pb_all (x : D) : bltD .all [x] S = ofO ((lstOf S x).bind blsOf) (fun bs => .bl (bs.all id)) S := eqI rfl
@[simp] theorem pb_any (x : D) : bltD .any [x] S = ofO ((lstOf S x).bind blsOf) (fun bs => .bl (bs.any id)) S := eqI rfl
@[simp] theorem pb_sum (x : D) : bltD .sum [x] S = ofO ((lstOf S x).bind intsOf) (fun ns => .int ns.sum) S := eqI rfl
@[simp] theorem pb_max2 (i j : Int) : bltD .max2 [.int i, .int j] S = .ok (.int (if j > i then j else i)) S := eqI rfl
@[simp] theorem pb_min2 (i j : Int) : bltD .min2 [.int i, .int j] S = .ok (.int (if j < i then j else i)) S := eqI rfl
theorem pb_list (x : D) : bltD .list [x] S = match seqOf S x with
    | some xs => newL xs S
    | none => .bad := eqI rfl
theorem pb_sorted (x : D) : bltD .sorted [x] S = match (seqOf S x).bind (sortD S) with
    | some ys => newL ys S
    | none => .bad := eqI rfl
@[simp] theorem pb_tuple (x : D) : bltD .tuple [x] S = ofO (seqOf S x) D.tup S := eqI rfl
@[simp] theorem c_lt (i j : Int) : cmpD .Lt (.int i) (.int j) S = .ok (.bl (decide (i < j))) S := eqI rfl
@[simp] theorem c_le (i j : Int) : cmpD .LtE (.int i) (.int j) S = .ok (.bl (decide (i ≤ j))) S := eqI rfl
@[simp] theorem c_gt (i j : Int) : cmpD .Gt (.int i) (.int j) S = .ok (.bl (decide (j < i))) S := eqI rfl
@[simp] theorem c_ge (i j : Int) : cmpD .GtE (.int i) (.int j) S = .ok (.bl (decide (j ≤ i))) S := eqI rfl
@[simp] theorem c_eq (i j : Int) : cmpD .Eq (.int i) (.int j) S = .ok (.bl (decide (i = j))) S := by
  simp [cmpD, eqD, isFlat, eqF]; rfl
@[simp] theorem c_ne (i j : Int) : cmpD .NotEq (.int i) (.int j) S = .ok (.bl (decide (i ≠ j))) S := by
  simp [cmpD, eqD, isFlat, eqF]; rfl
@[simp] theorem c_sne (i j : Str) : cmpD .NotEq (.str i) (.str j) S = .ok (.bl (decide (i ≠ j))) S := by
  simp [cmpD, eqD, isFlat, eqF]; rfl
@[simp] theorem c_isn (a b : Bool) : cmpD .IsNot (.bl a) (.bl b) S = .ok (.bl (!decide (a = b))) S := eqI rfl
@[simp] theorem c_is (a b : Bool) : cmpD .Is (.bl a) (.bl b) S = .ok (.bl (decide (a = b))) S := eqI rfl
@[simp] theorem b_add (i j : Int) : binD .Add (.int i) (.int j) S = .ok (.int (i + j)) S := eqI rfl
@[simp] theorem b_sub (i j : Int) : binD .Sub (.int i) (.int j) S = .ok (.int (i - j)) S := eqI rfl
theorem b_mul {i j : Int} (h : mulOk i j = true) : binD .Mult (.int i) (.int j) S = .ok (.int (i * j)) S := by simp [binD, h]
theorem b_mod {i j : Int} (h : 0 < j) : binD .Mod (.int i) (.int j) S = .ok (.int (i % j)) S := by simp [binD, h]
theorem b_div {i j : Int} (h : 0 < j) (h' : j < 1073741824) : binD .FloorDiv (.int i) (.int j) S = .ok (.int (i / j)) S := by simp [binD, h, h']
theorem b_addT {xs ys : List D} (h : xs.length + ys.length ≤ lim) : binD .Add (.tup xs) (.tup ys) S = .ok (.tup (xs ++ ys)) S := by simp [binD, h]
@[simp] theorem isi_eq (x : D) (T : String) : isiD S x (.ty T) = (tyD S x).bind fun t => isaT t T := eqI rfl
@[simp] theorem ty_non : tyD S .non = some "NoneType" := eqI rfl
@[simp] theorem ty_bl (b : Bool) : tyD S (.bl b) = some "bool" := eqI rfl
@[simp] theorem ty_int (b : Int) : tyD S (.int b) = some "int" := eqI rfl
@[simp] theorem ty_str (b : Str) : tyD S (.str b) = some "str" := eqI rfl
@[simp] theorem ty_tup (b : List D) : tyD S (.tup b) = some "tuple" := eqI rfl
@[simp] theorem isa_int (t : String) : isaT t "int" = some (t == "int" || t == "bool") := by simp [isaT]
@[simp] theorem isa_bool (t : String) : isaT t "bool" = some (t == "bool") := by simp [isaT]
@[simp] theorem isa_str (t : String) : isaT t "str" = some (t == "str") := by simp [isaT]
@[simp] theorem isa_tuple (t : String) : isaT t "tuple" = some (t == "tuple") := by simp [isaT]
@[simp] theorem isa_list (t : String) : isaT t "list" = some (t == "list") := by simp [isaT]
@[simp] theorem isa_dict (t : String) : isaT t "dict" = some (t == "dict") := by simp [isaT]
@[simp] theorem len_tup (xs : List D) : lenD S (.tup xs) = some xs.length := eqI rfl
@[simp] theorem len_con (xs : List D) : lenD S (.con xs) = some xs.length := eqI rfl
@[simp] theorem seq_tup (xs : List D) : seqOf S (.tup xs) = some xs := eqI rfl
@[simp] theorem seq_con (xs : List D) : seqOf S (.con xs) = some xs := eqI rfl
theorem seq_ref {n : Nat} {xs : List D} (h : S[n]? = some (.lst xs)) : seqOf S (.ref n) = some xs := by simp [seqOf, h]
theorem lst_ref {n : Nat} {xs : List D} (h : S[n]? = some (.lst xs)) : lstOf S (.ref n) = some xs := by simp [lstOf, h]
theorem len_ref {n : Nat} {xs : List D} (h : S[n]? = some (.lst xs)) : lenD S (.ref n) = some xs.length := by simp [lenD, seqOf, h]
@[simp] theorem newL_eq (xs : List D) : newL xs S = .ok (.ref S.length) (S ++ [.lst xs]) := eqI rfl
@[simp] theorem idx_tup (xs : List D) (i : Int) : idxD (.tup xs) (.int i) S = ofO (atI xs i) id S := eqI rfl
@[simp] theorem idx_con (xs : List D) (i : Int) : idxD (.con xs) (.int i) S = ofO (atI xs i) id S := eqI rfl
theorem idx_ref {n : Nat} {xs : List D} {i : Int} (h : S[n]? = some (.lst xs)) : idxD (.ref n) (.int i) S = ofO (atI xs i) id S := by simp [idxD, seqOf, h]
@[simp] theorem slc_tup (xs : List D) (l h : Option Int) : slcD (.tup xs) l h S = .ok (.tup (cut xs l h)) S := eqI rfl
/-! statements -/
@[simp] theorem s_skip : evS Γ W .skip r S = .ok (.nx r) S := by simp only [evS]
@[simp] theorem s_seq (a b : K) : evS Γ W (.seq a b) r S = thenS (evS Γ W a r S) (evS Γ W b) := by simp only [evS, thenS] <;> rfl
@[simp] theorem s_expr (c : C) : evS Γ W (.expr c) r S = (evE Γ c r S).bind (nxR r) := by simp only [evS] <;> rfl
@[simp] theorem s_set (i : Nat) (c : C) : evS Γ W (.set i c) r S = (evE Γ c r S).bind (setR r i) := by simp only [evS] <;> rfl
@[simp] theorem s_unp (is : List Nat) (c : C) : evS Γ W (.unp is c) r S = (evE Γ c r S).bind (unpR is r) := by simp only [evS] <;> rfl
@[simp] theorem s_par (is : List Nat) (as : C) : evS Γ W (.par is as) r S = (evA Γ as r S).bind (parR is r) := by simp only [evS] <;> rfl
@[simp] theorem s_put (o i v : C) : evS Γ W (.put o i v) r S = (evE Γ v r S).bind (kP1 (evE Γ o r) (evE Γ i r) r) := by simp only [evS] <;> rfl
@[simp] theorem s_ret (c : C) : evS Γ W (.ret c) r S = (evE Γ c r S).bind rtR := by simp only [evS] <;> rfl
@[simp] theorem s_retN : evS Γ W .retN r S = .ok (.rt .non) S := by simp only [evS]
@[simp] theorem s_ife (t : C) (a b : K) : evS Γ W (.ife t a b) r S = (evE Γ t r S).bind (kT (evS Γ W a r) (evS Γ W b r)) := by simp only [evS] <;> rfl
@[simp] theorem s_cont : evS Γ W .cont r S = .ok (.ct r) S := by simp only [evS]
@[simp] theorem s_dead : evS Γ W .dead r S = .bad := by simp only [evS]
@[simp] theorem ends_rt (d : D) : ends (.ok (.rt d) S) = .ok d S := eqI rfl
@[simp] theorem ends_nx : ends (.ok (.nx r) S) = .ok .non S := eqI rfl
/-- one turn of a for, of a comprehension -/
def forT (Γ : Cal) (W : Nat) (tg : Tg) (b : K) (v : D) (r : Env) (S : Store) : Res Fl :=
  match tg.set v r with
  | some r' => evS Γ W b r' S
  | none => .bad
def lcT (Γ : Cal) (tg : Tg) (cond elt : C) (r : Env) (v : D) (S : Store) : Res (Option D) :=
  match tg.set v (wipeD r tg.slots) with
  | some r' => (condD (evE Γ cond r' S) (evE Γ elt r')).noX
  | none => .bad
def onSrc {α : Type} (o : Option Src) (f : Src → Res α) : Res α := match o with
  | some src => f src
  | none => .bad
@[simp] theorem onSrc_some {α : Type} (s : Src) (f : Src → Res α) : onSrc (some s) f = f s := eqI rfl
def forRun (Γ : Cal) (W : Nat) (tg : Tg) (b : K) (r : Env) (S : Store) (src : Src) : Res Fl := forL src (forT Γ W tg b) (src.len S) 0 r S
def kFor (Γ : Cal) (W : Nat) (tg : Tg) (it : It) (b : K) (r : Env) (ds : List D) (S : Store) : Res Fl := onSrc (srcOf it ds S) (forRun Γ W tg b r S)
@[simp] theorem kFor_eq (tg : Tg) (it : It) (b : K) (ds : List D) : kFor Γ W tg it b r ds S = onSrc (srcOf it ds S) (forRun Γ W tg b r S) := eqI rfl
@[simp] theorem s_for (tg : Tg) (it : It) (x : C) (b : K) : evS Γ W (.for_ tg it x b) r S = (evA Γ x r S).bind (kFor Γ W tg it b r) := by
  simp only [evS]
  cases evA Γ x r S with
  | ok ds S1 =>
    simp only [bind_ok, kFor]
    cases srcOf it ds S1 <;> rfl
  | exc c S1 => rfl
  | bad => rfl
def lcRun (Γ : Cal) (tg : Tg) (cond elt : C) (r : Env) (S : Store) (src : Src) : Res D := if src.len S ≤ lim then (lcL src (lcT Γ tg cond elt r) (src.len S) 0 [] S).bind newL else .bad
def kLc (Γ : Cal) (tg : Tg) (it : It) (cond elt : C) (r : Env) (ds : List D) (S : Store) : Res D := onSrc (srcOf it ds S) (lcRun Γ tg cond elt r S)
@[simp] theorem kLc_eq (tg : Tg) (it : It) (cond elt : C) (ds : List D) : kLc Γ tg it cond elt r ds S = onSrc (srcOf it ds S) (lcRun Γ tg cond elt r S) := eqI rfl
@[simp] theorem e_lc (tg : Tg) (it : It) (x cond elt : C) : evE Γ (.lc tg it x cond elt) r S = (evA Γ x r S).bind (kLc Γ tg it cond elt r) := by
  simp only [evE]
  cases evA Γ x r S with
  | ok ds S1 =>
    simp only [bind_ok, kLc]
    cases srcOf it ds S1 <;> rfl
  | exc c S1 => rfl
  | bad => rfl
@[simp] theorem forT_one (i : Nat) (b : K) (v : D) : forT Γ W (.one i) b v r S = evS Γ W b (r.set i (some v)) S := eqI rfl
@[simp] theorem lcT_one (i : Nat) (cond elt : C) (v : D) : lcT Γ (.one i) cond elt r v S = (condD (evE Γ cond (r.set i (some v)) S) (evE Γ elt (r.set i (some v)))).noX := by
  simp [lcT, Tg.set, Tg.slots, wipeD]
@[simp] theorem set_one (i : Nat) (x : D) : (Tg.one i).set x r = some (r.set i (some x)) := eqI rfl
@[simp] theorem slots_one (i : Nat) : (Tg.one i).slots = [i] := eqI rfl
@[simp] theorem slots_many (i : List Nat) : (Tg.many i).slots = i := eqI rfl
@[simp] theorem wipe_nil : wipeD r [] = r := eqI rfl
@[simp] theorem wipe_cons (v : Nat) (vs : List Nat) : wipeD r (v :: vs) = (wipeD r vs).set v none := eqI rfl
theorem cF_eq {n f : Nat} {ds : List D} {S : Store} {d : Def} (h : DEFS f = some d) (hl : ds.length = d.nps) : callF DEFS WW (n + 1) f ds S = ends (evS ⟨callF DEFS WW n⟩ WW d.body (ds.map some ++ List.replicate (d.nsl - d.nps) none) S) := by
  simp only [callF, h, runD, hl, if_true]
end
/-! the smallest defs -/
def wholeD : D → Bool
  | .int _ => true
  | _ => false
def withinD (x : D) (lo hi : Int) : Bool := match x with
  | .int i => decide (lo ≤ i) && decide (i ≤ hi)
  | _ => false
def isTupD : D → Bool
  | .tup _ => true
  | _ => false
def cln (S : Store) (x : D) : Prop := ∃ t, tyD S x = some t
/-- what may stand in a thing -/
inductive Dc (S : Store) : D → Prop where
  | non : Dc S .non
  | bl (b : Bool) : Dc S (.bl b)
  | int (b : Int) : Dc S (.int b)
  | str (b : Str) : Dc S (.str b)
  | ref {n : Nat} : cln S (.ref n) → Dc S (.ref n)
  | tup {xs : List D} : xs.length ≤ lim → (∀ x ∈ xs, Dc S x) → Dc S (.tup xs)
section
variable {n : Nat} {x : D} {S : Store}
theorem Dc.cl (h : Dc S x) : cln S x := by
  cases h with
  | ref h => exact h
  | _ => exact ⟨_, rfl⟩
theorem Dc.mem {xs : List D} (h : Dc S (.tup xs)) {x : D} (hx : x ∈ xs) : Dc S x := by
  cases h with
  | tup _ h => exact h x hx
theorem Dc.len {xs : List D} (h : Dc S (.tup xs)) : xs.length ≤ lim := by
  cases h with
  | tup h _ => exact h
theorem get_app {S T : Store} {n : Nat} {o : O} (h : S[n]? = some o) : (S ++ T)[n]? = some o := by
  rw [List.getElem?_append_left]
  · exact h
  · rcases Nat.lt_or_ge n S.length with q | q
    · exact q
    · rw [List.getElem?_eq_none q] at h; cases h
theorem cln.app {T : Store} (h : cln S x) : cln (S ++ T) x := by
  obtain ⟨t, h⟩ := h
  refine ⟨t, ?_⟩
  cases x with
  | ref n =>
    simp only [tyD] at h ⊢
    cases e : S[n]? with
    | none => rw [e] at h; simp at h
    | some o => rw [get_app e]; rw [e] at h; exact h
  | _ => exact h
theorem Dc.app {T : Store} (h : Dc S x) : Dc (S ++ T) x := by
  induction h with
  | non => exact .non
  | bl b => exact .bl b
  | int b => exact .int b
  | str b => exact .str b
  | ref h => exact .ref h.app
  | tup hl _ ih => exact .tup hl ih
theorem ty_of (h : cln S x) : ∃ t, tyD S x = some t ∧ (t == "int") = wholeD x ∧ (t == "tuple") = isTupD x ∧ (wholeD x = true → (t == "bool") = false) := by
  obtain ⟨t, h⟩ := h
  refine ⟨t, h, ?_⟩
  cases x <;> simp [tyD] at h
  all_goals first | (subst h; exact ⟨rfl, rfl, fun _ => rfl⟩) | (subst h; exact ⟨rfl, rfl, fun z => by cases z⟩) | skip
  split at h <;> simp at h <;> (subst h; exact ⟨rfl, rfl, fun z => by cases z⟩)
theorem whole_code {Γ : Cal} (h : cln S x) : evE Γ (.and (.blt .isi (.cons (.var 0) (.cons (.bty "int") .nil))) (.not (.blt .isi (.cons (.var 0) (.cons (.bty "bool") .nil))))) [some x] S = .ok (.bl (wholeD x)) S := by
  obtain ⟨t, h, e, _, e3⟩ := ty_of h
  simp [h, e]
  cases hw : wholeD x with
  | true => simp [h, e3 hw]
  | false =>
    simp
    cases hb : (t == "bool") with
    | true => simp [h, hb]
    | false => simp
theorem is_whole_ok (h : cln S x) : callF DEFS WW (n + 1) i_is_whole [x] S = .ok (.bl (wholeD x)) S := by
  rw [cF_eq D_is_whole rfl]
  simp only [c_is_whole, k_is_whole]
  simp only [s_seq, s_ret, List.map_cons, List.map_nil, List.replicate, List.append_nil, Nat.sub_self, whole_code h, bind_ok, rtR_eq, then_rt, ends_rt]
theorem law_whole_ok (h : cln S x) : callF DEFS WW (n + 1) i__law_whole [x] S = .ok (.bl (wholeD x)) S := by
  rw [cF_eq D__law_whole rfl]
  simp only [c__law_whole, k__law_whole]
  simp only [s_seq, s_ret, List.map_cons, List.map_nil, List.replicate, List.append_nil, Nat.sub_self, whole_code h, bind_ok, rtR_eq, then_rt, ends_rt]
theorem is_within_ok {lo hi : Int} (h : cln S x) : callF DEFS WW (n + 2) i_is_within [x, .int lo, .int hi] S = .ok (.bl (withinD x lo hi)) S := by
  rw [cF_eq D_is_within rfl]
  simp only [c_is_within, k_is_within]
  simp [is_whole_ok h]
  cases x <;> simp [wholeD, withinD]
  rename_i i
  by_cases h1 : lo ≤ i <;> simp [h1]
theorem law_within_ok {lo hi : Int} (h : cln S x) : callF DEFS WW (n + 2) i__law_within [x, .int lo, .int hi] S = .ok (.bl (withinD x lo hi)) S := by
  rw [cF_eq D__law_within rfl]
  simp only [c__law_within, k__law_within]
  simp [law_whole_ok h]
  cases x <;> simp [wholeD, withinD]
  rename_i i
  by_cases h1 : lo ≤ i <;> simp [h1]
end
end MP

namespace MP
open PySem L2
def Grow (S S' : Store) : Prop := ∃ T, S' = S ++ T
theorem Grow.refl {S : Store} : Grow S S := ⟨[], by simp⟩
theorem Grow.trans {S S' S'' : Store} (h : Grow S S') (h' : Grow S' S'') : Grow S S'' := by
  obtain ⟨T, rfl⟩ := h
  obtain ⟨U, rfl⟩ := h'
  exact ⟨T ++ U, by simp⟩
theorem Grow.one {S : Store} (o : O) : Grow S (S ++ [o]) := ⟨[o], rfl⟩
theorem Grow.dc {S S' : Store} {x : D} (h : Grow S S') (d : Dc S x) : Dc S' x := by
  obtain ⟨T, rfl⟩ := h
  exact d.app
theorem Grow.cl {S S' : Store} {x : D} (h : Grow S S') (d : cln S x) : cln S' x := by
  obtain ⟨T, rfl⟩ := h
  exact d.app
theorem Grow.get {S S' : Store} {i : Nat} {o : O} (h : Grow S S') (d : S[i]? = some o) : S'[i]? = some o := by
  obtain ⟨T, rfl⟩ := h
  exact get_app d
/-- a comprehension, by what holds behind each turn -/
theorem lcL_ind {src : Src} {body : D → Store → Res (Option D)} (Q : Nat → List D → Store → Prop) {n : Nat} (step : ∀ i acc S', i < n → Q i acc S' → ∃ x y S'', src.at i S' = some (some x) ∧ body x S' = .ok y S'' ∧ Q (i + 1) (acc ++ y.toList) S'')
    (stop : ∀ acc S', Q n acc S' → src.at n S' = some none) : ∀ (m i : Nat) acc S, i + m = n → Q i acc S → ∃ acc' S', lcL src body m i acc S = .ok acc' S' ∧ Q n acc' S' := by
  intro m
  induction m with
  | zero =>
    intro i acc S hi h
    obtain rfl : i = n := by omega
    exact ⟨acc, S, by simp only [lcL, stop acc S h], h⟩
  | succ m ih =>
    intro i acc S hi h
    obtain ⟨x, y, S'', h1, h2, h3⟩ := step i acc S (by omega) h
    obtain ⟨acc', S', h4, h5⟩ := ih (i + 1) _ S'' (by omega) h3
    refine ⟨acc', S', ?_, h5⟩
    simp only [lcL, h1, h2, bind_ok]
    cases y with
    | none => simpa using h4
    | some y => simpa using h4
/-- a for -/
theorem forL_ind {src : Src} {body : D → Env → Store → Res Fl} (Q : Nat → Env → Store → Prop) (R : D → Store → Prop) {n : Nat}
    (step : ∀ i r S', i < n → Q i r S' → ∃ x, src.at i S' = some (some x) ∧ ((∃ r' S'', (body x r S' = .ok (.nx r') S'' ∨ body x r S' = .ok (.ct r') S'') ∧ Q (i + 1) r' S'') ∨ ∃ d S'', body x r S' = .ok (.rt d) S'' ∧ R d S''))
    (stop : ∀ r S', Q n r S' → src.at n S' = some none) : ∀ (m i : Nat) r S, i + m = n → Q i r S → (∃ r' S', forL src body m i r S = .ok (.nx r') S' ∧ Q n r' S') ∨ ∃ d S', forL src body m i r S = .ok (.rt d) S' ∧ R d S' := by
  intro m
  induction m with
  | zero =>
    intro i r S hi h
    obtain rfl : i = n := by omega
    exact .inl ⟨r, S, by simp only [forL, stop r S h], h⟩
  | succ m ih =>
    intro i r S hi h
    obtain ⟨x, h1, h2⟩ := step i r S (by omega) h
    rcases h2 with ⟨r', S'', h2, h3⟩ | ⟨d, S'', h2, h3⟩
    · have h4 := ih (i + 1) r' S'' (by omega) h3
      have e : forL src body (m + 1) i r S = forL src body m (i + 1) r' S'' := by
        rcases h2 with h2 | h2 <;> simp only [forL, h1, h2, bind_ok]
      rw [e]
      exact h4
    · exact .inr ⟨d, S'', by simp only [forL, h1, h2, bind_ok], h3⟩
@[simp] theorem src_seqT (xs : List D) (S : Store) : srcOf .seq [.tup xs] S = some (.fix xs) := eqI rfl
@[simp] theorem src_seqC (xs : List D) (S : Store) : srcOf .seq [.con xs] S = some (.fix xs) := eqI rfl
theorem src_seqL {n : Nat} {xs : List D} {S : Store} (h : S[n]? = some (.lst xs)) : srcOf .seq [.ref n] S = some (.lst n) := by simp [srcOf, srcSeq, h, conOf]
theorem src_rng1 {j : Int} {S : Store} (h0 : -big ≤ j) (h : j < big) : srcOf .rng [.int j] S = some (.rng 0 j.toNat) := by simp [srcOf, srcRng1, h0, h]
theorem src_rng2 {i j : Int} {S : Store} (h0 : -big ≤ i) (h : i < big) (h2 : -big ≤ j) (h3 : j < big) : srcOf .rng [.int i, .int j] S = some (.rng i (j - i).toNat) := by simp [srcOf, srcRng2, h0, h, h2, h3]
@[simp] theorem len_fix (xs : List D) (S : Store) : (Src.fix xs).len S = xs.length := eqI rfl
@[simp] theorem len_rng (i : Int) (n : Nat) (S : Store) : (Src.rng i n).len S = n := eqI rfl
@[simp] theorem at_fix (xs : List D) (i : Nat) (S : Store) : (Src.fix xs).at i S = some xs[i]? := eqI rfl
@[simp] theorem at_rng (lo : Int) (n i : Nat) (S : Store) : (Src.rng lo n).at i S = some (if i < n then some (.int (lo + i)) else none) := eqI rfl
theorem len_lst {n : Nat} {xs : List D} {S : Store} (h : S[n]? = some (.lst xs)) : (Src.lst n).len S = xs.length := by simp [Src.len, h, conOf]
theorem at_lst {n i : Nat} {xs : List D} {S : Store} (h : S[n]? = some (.lst xs)) : (Src.lst n).at i S = some xs[i]? := by simp [Src.at, h, conOf]
def someR (y : D) (S : Store) : Res (Option D) := .ok (some y) S
@[simp] theorem someR_eq (y : D) (S : Store) : someR y S = .ok (some y) S := eqI rfl
def noneR (S : Store) : Res (Option D) := .ok none S
@[simp] theorem noneR_eq (S : Store) : noneR S = .ok none S := eqI rfl
def kE (e : Store → Res D) (S : Store) : Res (Option D) := (e S).bind someR
@[simp] theorem kE_eq (e : Store → Res D) (S : Store) : kE e S = (e S).bind someR := eqI rfl
@[simp] theorem cond_eq (t : Res D) (e : Store → Res D) : condD t e = t.bind (kT (kE e) noneR) := eqI rfl
theorem get_last {S : Store} {o : O} : (S ++ [o])[S.length]? = some o := by simp
@[simp] theorem lst_last {S : Store} {xs : List D} : lstOf (S ++ [.lst xs]) (.ref S.length) = some xs := by simp [lstOf]
theorem bls_map (l : List D) (g : D → Bool) : blsOf (l.map fun x => .bl (g x)) = some (l.map g) := by
  induction l with
  | nil => rfl
  | cons a l ih => simp [blsOf, ih]
/-- a comprehension over a tuple: a truth of each -/
theorem lc_bools {Γ : Cal} {r : Env} {i : Nat} {e : C} {xs : List D} {g : D → Bool} {S : Store}
    (h : ∀ x ∈ xs, ∀ S', Grow S S' → ∃ S'', Grow S' S'' ∧ evE Γ e (r.set i (some x)) S' = .ok (.bl (g x)) S'') :
    ∃ S', Grow S S' ∧ lcL (.fix xs) (lcT Γ (.one i) .no e r) xs.length 0 [] S = .ok (xs.map fun x => .bl (g x)) S' := by
  obtain ⟨acc, S', h1, h2, h3⟩ := lcL_ind (src := .fix xs) (body := lcT Γ (.one i) .no e r) (fun k acc S' => Grow S S' ∧ acc = (xs.take k).map fun x => .bl (g x)) (n := xs.length) (by
      intro k acc S' hk ⟨h1, h2⟩
      obtain ⟨S'', h3, h4⟩ := h xs[k] (by simp) S' h1
      refine ⟨xs[k], some (.bl (g xs[k])), S'', by simp [hk], ?_, h1.trans h3, ?_⟩
      · simp [h4]
      · rw [h2, List.take_add_one, List.map_append]
        simp [hk]) (by intro acc S' _; simp) xs.length 0 [] S (by omega) ⟨.refl, by simp⟩
  exact ⟨S', h2, by rw [h1, h3]; simp⟩
theorem run_bools {Γ : Cal} {r : Env} {i : Nat} {e : C} {xs : List D} {g : D → Bool} {S : Store} (hl : xs.length ≤ lim)
    (h : ∀ x ∈ xs, ∀ S', Grow S S' → ∃ S'', Grow S' S'' ∧ evE Γ e (r.set i (some x)) S' = .ok (.bl (g x)) S'') :
    ∃ S' k, Grow S S' ∧ lcRun Γ (.one i) .no e r S (.fix xs) = .ok (.ref k) S' ∧ lstOf S' (.ref k) = some (xs.map fun x => .bl (g x)) := by
  obtain ⟨S', h1, h2⟩ := lc_bools h
  refine ⟨S' ++ [.lst (xs.map fun x => .bl (g x))], S'.length, h1.trans (.one _), ?_, lst_last⟩
  unfold lcRun
  rw [len_fix, if_pos hl, h2]
  rfl
section
variable {n : Nat} {x : D} {S : Store}
def descI : List Int → Bool
  | a :: b :: r => decide (b ≤ a) && descI (b :: r)
  | _ => true
def isKindD : D → Bool
  | .tup [a, .tup rs] => withinD a 1 999 && decide (rs.length = 4) && rs.all (fun x => withinD x 0 9) && (match intsOf rs with
    | some ns => descI ns
    | none => false)
  | _ => false
theorem within_int {x : D} {lo hi : Int} (h : withinD x lo hi = true) : ∃ i, x = .int i ∧ lo ≤ i ∧ i ≤ hi := by
  cases x <;> simp [withinD] at h
  exact ⟨_, rfl, h⟩
theorem list4 {xs : List D} (h : xs.length = 4) : ∃ a b c d, xs = [a, b, c, d] := by
  match xs, h with
  | [a, b, c, d], _ => exact ⟨a, b, c, d, rfl⟩
theorem is_kind_ok (h : Dc S x) : ∃ S', Grow S S' ∧ callF DEFS WW (n + 3) i_is_kind [x] S = .ok (.bl (isKindD x)) S' := by
  rw [cF_eq D_is_kind rfl]
  simp only [c_is_kind, k_is_kind]
  obtain ⟨t, ht, _, e2, _⟩ := ty_of h.cl
  cases x with
  | tup xs =>
    match xs, h with
    | [], h => exact ⟨S, .refl, by simp [isKindD]⟩
    | [a], h => exact ⟨S, .refl, by simp [isKindD]⟩
    | a :: b :: c :: l, h => exact ⟨S, .refl, by simp [isKindD, show ¬ ((l.length : Int) + 1 + 1 + 1 = 2) by omega]⟩
    | [a, b], h =>
      have ha := (h.mem (x := a) (by simp)).cl
      have hb := h.mem (x := b) (by simp)
      simp [ha, is_within_ok, show atI [a, b] 0 = some a from rfl]
      cases hw : withinD a 1 999 with
      | false =>
        refine ⟨S, .refl, ?_⟩
        cases b <;> simp [isKindD, hw]
      | true =>
        simp [show atI [a, b] 1 = some b from rfl]
        obtain ⟨t', ht', _, e3, _⟩ := ty_of hb.cl
        cases b with
        | tup rs =>
          simp
          by_cases h4 : rs.length = 4
          · obtain ⟨p, q, u, v, rfl⟩ := list4 h4
            have hm := fun y hy => (hb.mem (x := y) hy).cl
            simp
            generalize hz : lcRun _ _ _ _ _ _ _ = z
            obtain ⟨S', k, g1, rfl, g3⟩ : ∃ S' k, Grow S S' ∧ z = .ok (.ref k) S' ∧ lstOf S' (.ref k) = some ([p, q, u, v].map fun x => .bl (withinD x 0 9)) :=
              hz ▸ run_bools (by show 4 ≤ lim; decide) (fun x hx S' gr => ⟨S', .refl, by simp [is_within_ok (gr.cl (hm x hx))]⟩)
            clear hz
            simp only [bind_ok, kCons_eq, a_nil, consR_eq, pb_all, g3, Option.bind_some, bls_map, ofO_some, notD_bl]
            cases ha4 : [p, q, u, v].all (fun x => withinD x 0 9) with
            | false =>
              refine ⟨S', g1, ?_⟩
              have e5 : (List.map (fun x => withinD x 0 9) [p, q, u, v]).all id = false := by rw [← ha4, List.all_map]; rfl
              rw [e5]
              simp [isKindD]
              simp at ha4
              intro _ a1 a2 a3 a4
              simp [a1, a2, a3] at ha4
              rw [ha4] at a4
              cases a4
            | true =>
              have e5 : (List.map (fun x => withinD x 0 9) [p, q, u, v]).all id = true := by rw [← ha4, List.all_map]; rfl
              rw [e5]
              simp at ha4
              obtain ⟨a1, a2, a3, a4⟩ := ha4
              obtain ⟨p, rfl, _, _⟩ := within_int a1
              obtain ⟨q, rfl, _, _⟩ := within_int a2
              obtain ⟨u, rfl, _, _⟩ := within_int a3
              obtain ⟨v, rfl, _, _⟩ := within_int a4
              have e6 : ∀ S, srcOf .rng [.int 1, .int ((0 : Int) + 1 + 1 + 1 + 1)] S = some (.rng 1 3) := fun _ => rfl
              simp [lcRun, lcL, srcOf, srcRng2, big, lim, show atI [D.int p, .int q, .int u, .int v] 0 = some (.int p) from rfl, show atI [D.int p, .int q, .int u, .int v] 1 = some (.int q) from rfl, show atI [D.int p, .int q, .int u, .int v] 2 = some (.int u) from rfl, show atI [D.int p, .int q, .int u, .int v] 3 = some (.int v) from rfl, blsOf]
              refine ⟨g1.trans (.one _), ?_⟩
              simp [isKindD, hw, a1, a2, a3, a4, intsOf, descI, Bool.and_assoc]
          · refine ⟨S, .refl, ?_⟩
            have h5 : ¬ ((rs.length : Int) = 4) := by omega
            simp [isKindD, h4, h5, hw]
        | _ =>
          have e4 : (t' == "tuple") = false := e3
          exact ⟨S, .refl, by simp [ht', e4, isKindD]⟩
  | _ =>
    have e3 : (t == "tuple") = false := e2
    exact ⟨S, .refl, by simp [ht, e3, isKindD]⟩
/-! apart -/
def pairOkD (m : Int) : D → Bool
  | .tup [.int a, .int b] => decide (0 ≤ a) && decide (a < b) && decide (b ≤ m)
  | _ => false
def ascI : List (Int × Int) → Bool
  | a :: b :: r => (decide (a.1 < b.1) || (decide (a.1 = b.1) && decide (a.2 < b.2))) && ascI (b :: r)
  | _ => true
def pairsOf : List D → Option (List (Int × Int))
  | [] => some []
  | .tup [.int a, .int b] :: r => (pairsOf r).map ((a, b) :: ·)
  | _ :: _ => none
def areApartD (m : Int) : D → Bool
  | .tup xs => xs.all (pairOkD m) && (match pairsOf xs with
    | some ps => ascI ps
    | none => false)
  | _ => false
def ltP (p q : Int × Int) : Bool := decide (p.1 < q.1) || (decide (p.1 = q.1) && decide (p.2 < q.2))
def pairD (p : Int × Int) : D := .tup [.int p.1, .int p.2]
theorem lt_pair (p q : Int × Int) : cmpD .Lt (pairD p) (pairD q) S = .ok (.bl (ltP p q)) S := by
  obtain ⟨a, b⟩ := p
  obtain ⟨c, d⟩ := q
  simp [cmpD, ltD, intsOf, HT.lexLt, pairD, ltP]
  by_cases h' : a = c
  · subst h'
    by_cases h : b = d
    · subst h; simp
    · simp [h]
  · simp [h']
theorem all_pairs {m : Int} : ∀ {xs : List D}, xs.all (pairOkD m) = true → ∃ ps : List (Int × Int), xs = ps.map pairD ∧ pairsOf xs = some ps := by
  intro xs
  induction xs with
  | nil => intro _; exact ⟨[], rfl, rfl⟩
  | cons x xs ih =>
    intro h
    simp only [List.all_cons, Bool.and_eq_true] at h
    obtain ⟨ps, rfl, h2⟩ := ih h.2
    have h1 := h.1
    unfold pairOkD at h1
    split at h1
    · rename_i a b
      exact ⟨(a, b) :: ps, rfl, by simp [pairsOf, h2]⟩
    · cases h1
theorem asc_range : ∀ ps : List (Int × Int), (List.range (ps.length - 1)).all (fun i => ltP (ps.getD i (0, 0)) (ps.getD (i + 1) (0, 0))) = ascI ps := by
  intro ps
  induction ps with
  | nil => rfl
  | cons p ps ih =>
    cases ps with
    | nil => rfl
    | cons q ps =>
      simp only [List.length_cons, Nat.add_sub_cancel] at ih ⊢
      rw [List.range_succ_eq_map, List.all_cons, List.all_map, ascI]
      simp only [ltP] at ih ⊢
      rw [← ih]
      simp [Function.comp_def]
/-- a comprehension over a range: a truth of each -/
theorem run_boolsR {Γ : Cal} {r : Env} {i n : Nat} {lo : Int} {e : C} {g : Nat → Bool} (hl : n ≤ lim)
    (h : ∀ k, k < n → ∀ S', Grow S S' → ∃ S'', Grow S' S'' ∧ evE Γ e (r.set i (some (.int (lo + k)))) S' = .ok (.bl (g k)) S'') :
    ∃ S' k, Grow S S' ∧ lcRun Γ (.one i) .no e r S (.rng lo n) = .ok (.ref k) S' ∧ lstOf S' (.ref k) = some ((List.range n).map fun k => .bl (g k)) := by
  obtain ⟨acc, S', h1, h2, h3⟩ := lcL_ind (src := .rng lo n) (body := lcT Γ (.one i) .no e r) (fun k acc S' => Grow S S' ∧ acc = (List.range k).map fun x => .bl (g x)) (n := n) (by
      intro k acc S' hk ⟨h1, h2⟩
      obtain ⟨S'', h3, h4⟩ := h k hk S' h1
      refine ⟨.int (lo + k), some (.bl (g k)), S'', by simp [hk], ?_, h1.trans h3, ?_⟩
      · simp [h4]
      · rw [h2, List.range_succ, List.map_append]
        simp) (by intro acc S' _; simp) n 0 [] S (by omega) ⟨.refl, by simp⟩
  refine ⟨S' ++ [.lst acc], S'.length, h2.trans (.one _), ?_, by rw [lst_last, h3]⟩
  unfold lcRun
  rw [len_rng, if_pos hl, h1]
  rfl
theorem blsR (n : Nat) (g : Nat → Bool) : blsOf ((List.range n).map fun x => .bl (g x)) = some ((List.range n).map g) := by
  generalize List.range n = l
  induction l with
  | nil => rfl
  | cons a l ih => simp [blsOf, ih]
theorem at_nat {α : Type} {xs : List α} {k : Nat} : atI xs (k : Int) = xs[k]? := by
  unfold atI ixN
  rw [if_pos (by omega)]
  by_cases h : k < xs.length
  · rw [if_pos (by omega)]; rfl
  · rw [if_neg (by omega)]
    simp [List.getElem?_eq_none (Nat.le_of_not_lt h)]
theorem lim_lt (n : Nat) (h : n ≤ lim) : (n : Int) < big := by
  unfold lim at h
  unfold big
  omega
theorem big_1 : -big ≤ (1 : Int) := by decide
theorem big_2 : (1 : Int) < big := by decide
theorem big_n (n : Nat) : -big ≤ (n : Int) := by unfold big; omega
theorem src_1len {n : Nat} (h : n ≤ lim) : srcOf .rng [.int 1, .int (n : Int)] S = some (.rng 1 (n - 1)) := by
  have e : ((n : Int) - 1).toNat = n - 1 := by omega
  rw [src_rng2 big_1 big_2 (big_n n) (lim_lt n h), e]
/-- what a turn ends with -/
def StepP (Q : Env → Store → Prop) (R : D → Store → Prop) : Res Fl → Prop
  | .ok (.nx r) S => Q r S
  | .ok (.ct r) S => Q r S
  | .ok (.rt d) S => R d S
  | _ => False
@[simp] theorem step_nx (Q : Env → Store → Prop) (R : D → Store → Prop) (r : Env) (S : Store) : StepP Q R (.ok (.nx r) S) = Q r S := eqI rfl
@[simp] theorem step_ct (Q : Env → Store → Prop) (R : D → Store → Prop) (r : Env) (S : Store) : StepP Q R (.ok (.ct r) S) = Q r S := eqI rfl
@[simp] theorem step_rt (Q : Env → Store → Prop) (R : D → Store → Prop) (r : D) (S : Store) : StepP Q R (.ok (.rt r) S) = R r S := eqI rfl
/-- a for over a tuple, a list, a range -/
theorem for_src {Γ : Cal} {W : Nat} {tg : Tg} {b : K} {r : Env} {src : Src} {m : Nat} (Q : Nat → Env → Store → Prop) (R : D → Store → Prop) {P : Res Fl → Prop} (hm : src.len S = m) (h0 : Q 0 r S)
    (step : ∀ i r' S', i < m → Q i r' S' → ∃ x, src.at i S' = some (some x) ∧ StepP (Q (i + 1)) R (forT Γ W tg b x r' S'))
    (stop : ∀ r' S', Q m r' S' → src.at m S' = some none) (hn : ∀ r' S', Q m r' S' → P (.ok (.nx r') S')) (hr : ∀ d S', R d S' → P (.ok (.rt d) S')) : P (forRun Γ W tg b r S src) := by
  unfold forRun
  rw [hm]
  rcases forL_ind (src := src) (body := forT Γ W tg b) Q R (n := m) (fun i r' S' hi q => by
      obtain ⟨x, h1, h2⟩ := step i r' S' hi q
      refine ⟨x, h1, ?_⟩
      match e : forT Γ W tg b x r' S', h2 with
      | .ok (.nx r'') S'', h2 => exact .inl ⟨r'', S'', .inl rfl, h2⟩
      | .ok (.ct r'') S'', h2 => exact .inl ⟨r'', S'', .inr rfl, h2⟩
      | .ok (.rt d) S'', h2 => exact .inr ⟨d, S'', rfl, h2⟩) stop m 0 r S (by omega) h0 with ⟨r', S', e, q⟩ | ⟨d, S', e, q⟩
  · rw [e]; exact hn r' S' q
  · rw [e]; exact hr d S' q
theorem for_fix {Γ : Cal} {W : Nat} {tg : Tg} {b : K} {r : Env} {xs : List D} (Q : Nat → Env → Store → Prop) (R : D → Store → Prop) {P : Res Fl → Prop} (h0 : Q 0 r S)
    (step : ∀ i x r' S', xs[i]? = some x → Q i r' S' → StepP (Q (i + 1)) R (forT Γ W tg b x r' S'))
    (hn : ∀ r' S', Q xs.length r' S' → P (.ok (.nx r') S')) (hr : ∀ d S', R d S' → P (.ok (.rt d) S')) : P (forRun Γ W tg b r S (.fix xs)) :=
  for_src (m := xs.length) Q R rfl h0 (fun i r' S' hi q => ⟨xs[i], by simp, step i xs[i] r' S' (by simp) q⟩) (fun r' S' _ => by simp) hn hr
theorem for_rng {Γ : Cal} {W : Nat} {tg : Tg} {b : K} {r : Env} {lo : Int} {m : Nat} (Q : Nat → Env → Store → Prop) (R : D → Store → Prop) {P : Res Fl → Prop} (h0 : Q 0 r S)
    (step : ∀ (i : Nat) r' S', i < m → Q i r' S' → StepP (Q (i + 1)) R (forT Γ W tg b (.int (lo + i)) r' S'))
    (hn : ∀ r' S', Q m r' S' → P (.ok (.nx r') S')) (hr : ∀ d S', R d S' → P (.ok (.rt d) S')) : P (forRun Γ W tg b r S (.rng lo m)) :=
  for_src (m := m) Q R rfl h0 (fun i r' S' hi q => ⟨_, by simp [hi], step i r' S' hi q⟩) (fun r' S' _ => by simp) hn hr
theorem lc_bl {Γ : Cal} {r : Env} {i : Nat} {e : C} {xs : List D} {P : Res D → Prop} (g : D → Bool) (hl : xs.length ≤ lim) (h : ∀ x ∈ xs, ∀ S', Grow S S' → ∃ S'', Grow S' S'' ∧ evE Γ e (r.set i (some x)) S' = .ok (.bl (g x)) S'')
    (k : ∀ S' j, Grow S S' → lstOf S' (.ref j) = some (xs.map fun x => .bl (g x)) → P (.ok (.ref j) S')) : P (lcRun Γ (.one i) .no e r S (.fix xs)) := by
  obtain ⟨S', j, h1, h2, h3⟩ := run_bools hl h
  rw [h2]
  exact k S' j h1 h3
theorem lc_blR {Γ : Cal} {r : Env} {i n : Nat} {lo : Int} {e : C} {P : Res D → Prop} (g : Nat → Bool) (hl : n ≤ lim) (h : ∀ k, k < n → ∀ S', Grow S S' → ∃ S'', Grow S' S'' ∧ evE Γ e (r.set i (some (.int (lo + k)))) S' = .ok (.bl (g k)) S'')
    (k : ∀ S' j, Grow S S' → lstOf S' (.ref j) = some ((List.range n).map fun x => .bl (g x)) → P (.ok (.ref j) S')) : P (lcRun Γ (.one i) .no e r S (.rng lo n)) := by
  obtain ⟨S', j, h1, h2, h3⟩ := run_boolsR hl h
  rw [h2]
  exact k S' j h1 h3
theorem all_map {α : Type} (l : List α) (g : α → Bool) : (l.map g).all id = l.all g := by rw [List.all_map]; rfl
theorem pair_len {m : Int} {xs : List D} (h : xs.length ≠ 2) : pairOkD m (.tup xs) = false := by
  unfold pairOkD
  split
  · rename_i e; cases e; exact absurd rfl h
  · rfl
theorem are_apart_ok {m : Int} (h : Dc S x) : ∃ S', Grow S S' ∧ callF DEFS WW (n + 3) i_are_apart [.int (m + 1), x] S = .ok (.bl (areApartD m x)) S' := by
  rw [cF_eq D_are_apart rfl]
  simp only [c_are_apart, k_are_apart]
  obtain ⟨t, ht, _, e2, _⟩ := ty_of h.cl
  cases x with
  | tup xs =>
    have hl := h.len
    simp
    refine for_fix (P := fun z => ∃ S', Grow S S' ∧ ends (thenS z _) = .ok _ S') (fun i r S' => Grow S S' ∧ (∀ y ∈ xs.take i, pairOkD m y = true) ∧ ∃ o, r = [some (.int (m + 1)), some (.tup xs), o, none, none]) (fun d S' => Grow S S' ∧ d = .bl false ∧ ∃ x, x ∈ xs ∧ pairOkD m x = false) ⟨.refl, by simp, _, rfl⟩ ?_ ?_ ?_
    · rintro i y r S' hy ⟨g, q, o, rfl⟩
      have hd : Dc S' y := g.dc (h.mem (List.mem_of_getElem? hy))
      have bad : pairOkD m y = false → ∃ x, x ∈ xs ∧ pairOkD m x = false := fun hb => ⟨y, List.mem_of_getElem? hy, hb⟩
      have take : pairOkD m y = true → ∀ z ∈ xs.take (i + 1), pairOkD m z = true := fun hk z hz => by
        rw [List.take_add_one, hy] at hz
        rcases List.mem_append.mp hz with hz | hz
        · exact q z hz
        · simp at hz; rw [hz]; exact hk
      obtain ⟨t', ht', _, e3, _⟩ := ty_of hd.cl
      cases y with
      | tup ys =>
        simp
        by_cases h2 : ys.length = 2
        · obtain ⟨a, b, rfl⟩ : ∃ a b, ys = [a, b] := by
            match ys, h2 with
            | [a, b], _ => exact ⟨a, b, rfl⟩
          simp
          have hab : ∀ z ∈ [a, b], cln S' z := fun z hz => (hd.mem hz).cl
          refine lc_bl (P := fun z => StepP _ _ (thenS (((((z.bind _).bind _).bind _).bind _)) _)) (fun z => withinD z 0 m) (by show 2 ≤ lim; decide) (fun z hz S1 g1 => ⟨S1, .refl, by simp [is_within_ok (g1.cl (hab z hz))]⟩) fun S1 j g1 hj => ?_
          simp only [bind_ok, kCons_eq, a_nil, consR_eq, pb_all, hj, Option.bind_some, bls_map, ofO_some, notD_bl, all_map]
          cases hw : [a, b].all (fun z => withinD z 0 m) with
          | false =>
            simp
            refine ⟨g.trans g1, bad ?_⟩
            cases hq : pairOkD m (.tup [a, b]) with
            | false => rfl
            | true =>
              unfold pairOkD at hq
              split at hq
              · rename_i e
                cases e
                simp at hq
                simp [withinD] at hw
                omega
              · cases hq
          | true =>
            simp at hw
            obtain ⟨a, rfl, a1, a2⟩ := within_int hw.1
            obtain ⟨b, rfl, b1, b2⟩ := within_int hw.2
            simp [show atI [D.int a, .int b] 0 = some (.int a) from rfl, show atI [D.int a, .int b] 1 = some (.int b) from rfl]
            by_cases hba : b ≤ a
            · simp [hba]
              exact ⟨g.trans g1, bad (by simp [pairOkD]; omega)⟩
            · simp [hba]
              exact ⟨g.trans g1, take (by simp [pairOkD]; omega)⟩
        · have h3 : ¬ ((ys.length : Int) = 2) := by omega
          simp [h3]
          exact ⟨g, bad (pair_len h2)⟩
      | _ =>
        have e4 : (t' == "tuple") = false := e3
        simp [ht', e4]
        exact ⟨g, bad rfl⟩
    · rintro r' S' ⟨g, q, o, rfl⟩
      have q' : xs.all (pairOkD m) = true := by
        rw [List.all_eq_true]
        simpa using q
      obtain ⟨ps, rfl, hp⟩ := all_pairs q'
      rw [List.length_map] at hl
      simp [src_1len hl]
      refine lc_blR (P := fun z => ∃ S', Grow S S' ∧ ends (thenS (((z.bind _).bind _).bind _) _) = .ok _ S') (fun i => ltP (ps.getD i (0, 0)) (ps.getD (i + 1) (0, 0))) (by omega) (fun k hk S1 g1 => ⟨S1, .refl, ?_⟩) fun S1 j g1 hj => ⟨S1, g.trans g1, ?_⟩
      · have e1 : (1 : Int) + (k : Int) - 1 = ((k : Nat) : Int) := by omega
        have e2 : (1 : Int) + (k : Int) = ((k + 1 : Nat) : Int) := by omega
        have h1 : k < ps.length := by omega
        have h2 : k + 1 < ps.length := by omega
        rw [e2] at e1
        rw [e2]
        simp only [e_cmp, e_idx, e_bin, e_var, getR_0, getR_s, List.set_cons_succ, List.set_cons_zero, bind_ok, kA_eq, e_val, b_sub, idx_tup, e1, at_nat, List.getElem?_map, List.getElem?_eq_getElem h1, List.getElem?_eq_getElem h2, Option.map_some, ofO_some, id, lt_pair]
        rw [← List.getElem_eq_getD (h := h1) (0, 0), ← List.getElem_eq_getD (h := h2) (0, 0)]
      · simp only [bind_ok, kCons_eq, a_nil, consR_eq, pb_all, hj, Option.bind_some, blsR, ofO_some, all_map, rtR_eq, then_rt, ends_rt, asc_range]
        rw [areApartD, q', hp, Bool.true_and]
    · rintro d S' ⟨g, rfl, y, q1, q2⟩
      have q : xs.all (pairOkD m) = false := by
        rw [List.all_eq_false]
        exact ⟨y, q1, by simp [q2]⟩
      exact ⟨S', g, by simp only [then_rt, ends_rt, areApartD, q, Bool.false_and]⟩
  | _ =>
    have e3 : (t == "tuple") = false := e2
    exact ⟨S, .refl, by simp [ht, e3, areApartD]⟩
end
end MP

namespace MP
open PySem L2
section
variable {n : Nat} {x : D} {S : Store}
def isHouseD : D → Bool
  | .tup [.tup rooms, .tup kinds, ap, hold] => decide (1 ≤ rooms.length) && decide (rooms.length ≤ 5) && rooms.all (fun x => withinD x 0 3) && (decide (1 ≤ kinds.length) && decide (kinds.length ≤ 4)) && kinds.all isKindD && areApartD ((kinds.length : Int) - 1) ap && withinD hold 1 9
  | _ => false
theorem all_bl {l : List D} {g : D → Bool} : ofO ((some (l.map fun x => D.bl (g x))).bind blsOf) (fun bs => D.bl (bs.all id)) S = .ok (.bl (l.all g)) S := by
  rw [Option.bind_some, bls_map, ofO_some, all_map]
theorem house_len {xs : List D} (h : xs.length ≠ 4) : isHouseD (.tup xs) = false := by
  unfold isHouseD
  split
  · rename_i e; cases e; exact absurd rfl h
  · rfl
theorem is_house_ok (h : Dc S x) : ∃ S', Grow S S' ∧ callF DEFS WW (n + 4) i_is_house [x] S = .ok (.bl (isHouseD x)) S' := by
  rw [cF_eq D_is_house rfl]
  simp only [c_is_house, k_is_house]
  obtain ⟨t, ht, _, e2, _⟩ := ty_of h.cl
  cases x with
  | tup xs =>
    by_cases h4 : xs.length = 4
    · obtain ⟨a, b, c, d, rfl⟩ := list4 h4
      have da := h.mem (x := a) (by simp)
      have db := h.mem (x := b) (by simp)
      have dc := h.mem (x := c) (by simp)
      have dd := h.mem (x := d) (by simp)
      simp
      obtain ⟨ta, hta, _, ea, _⟩ := ty_of da.cl
      obtain ⟨tb, htb, _, eb, _⟩ := ty_of db.cl
      cases a with
      | tup rooms =>
        simp
        by_cases h1 : 1 ≤ rooms.length ∧ rooms.length ≤ 5
        · have i1 : (1 : Int) ≤ (rooms.length : Int) := by omega
          have i2 : (rooms.length : Int) ≤ 5 := by omega
          simp [i1, i2]
          refine lc_bl (P := fun z => ∃ S', Grow S S' ∧ ends (thenS ((((z.bind _).bind _).bind _).bind _) _) = .ok _ S') (fun z => withinD z 0 3) da.len (fun z hz S1 g1 => ⟨S1, .refl, by simp [is_within_ok (g1.cl (da.mem hz).cl)]⟩) fun S1 j g1 hj => ?_
          simp only [bind_ok, kCons_eq, a_nil, consR_eq, pb_all, hj, all_bl, notD_bl]
          cases hr : rooms.all (fun z => withinD z 0 3) with
          | false =>
            refine ⟨S1, g1, ?_⟩
            simp only [Bool.not_false, kT_t, s_seq, s_ret, e_val, bind_ok, rtR_eq, then_rt, ends_rt]
            cases b <;> simp only [isHouseD, hr, Bool.and_false, Bool.false_and]
          | true =>
            simp only [Bool.not_true, kT_f, s_skip, then_nx]
            cases b with
            | tup kinds =>
              simp
              by_cases h2 : 1 ≤ kinds.length ∧ kinds.length ≤ 4
              · have j1 : (1 : Int) ≤ (kinds.length : Int) := by omega
                have j2 : (kinds.length : Int) ≤ 4 := by omega
                simp [j1, j2]
                refine lc_bl (P := fun z => ∃ S', Grow S S' ∧ ends (thenS ((((z.bind _).bind _).bind _).bind _) _) = .ok _ S') isKindD db.len (fun z hz S2 g2 => ?_) fun S2 j2 g2 hj2 => ?_
                · obtain ⟨S3, g3, e3⟩ := is_kind_ok (n := n) (g2.dc (g1.dc (db.mem hz)))
                  exact ⟨S3, g3, by simp [e3]⟩
                · simp only [bind_ok, kCons_eq, a_nil, consR_eq, pb_all, hj2, all_bl, notD_bl]
                  cases hk : kinds.all isKindD with
                  | false =>
                    refine ⟨S2, g1.trans g2, ?_⟩
                    simp only [Bool.not_false, kT_t, s_seq, s_ret, e_val, bind_ok, rtR_eq, then_rt, ends_rt]
                    simp only [isHouseD, hk, Bool.and_false, Bool.false_and]
                  | true =>
                    simp only [Bool.not_true, kT_f, s_skip, then_nx]
                    obtain ⟨S3, g3, e3⟩ := are_apart_ok (n := n) (m := (kinds.length : Int) - 1) (g2.dc (g1.dc dc))
                    rw [show (kinds.length : Int) - 1 + 1 = (kinds.length : Int) by omega] at e3
                    simp [e3]
                    have h1' := h1
                    have h2' := h2
                    cases ha : areApartD ((kinds.length : Int) - 1) c with
                    | false =>
                      refine ⟨S3, g1.trans (g2.trans g3), ?_⟩
                      simp [isHouseD, ha]
                    | true =>
                      refine ⟨S3, g1.trans (g2.trans g3), ?_⟩
                      simp [is_within_ok (g3.cl (g2.cl (g1.cl dd.cl)))]
                      simp only [isHouseD, ha, hr, hk, h1.1, h1.2, h2.1, h2.2, decide_true, Bool.and_true, Bool.true_and]
              · refine ⟨S1, g1, ?_⟩
                have e5 : (decide (1 ≤ kinds.length) && decide (kinds.length ≤ 4)) = false := by
                  by_cases k1 : 1 ≤ kinds.length
                  · have k2 : ¬ kinds.length ≤ 4 := fun z => h2 ⟨k1, z⟩
                    simp [k2]
                  · simp [k1]
                by_cases k1 : (1 : Int) ≤ (kinds.length : Int)
                · have k2 : ¬ ((kinds.length : Int) ≤ 4) := by omega
                  simp [k1, k2]
                  simp only [isHouseD, e5, Bool.and_false, Bool.false_and]
                · simp [k1]
                  simp only [isHouseD, e5, Bool.and_false, Bool.false_and]
            | _ =>
              have e4 : (tb == "tuple") = false := eb
              have hq := g1.cl db.cl
              obtain ⟨tb', htb', _, eb', _⟩ := ty_of hq
              have e5 : (tb' == "tuple") = false := eb'
              exact ⟨S1, g1, by simp [htb', e5, isHouseD]⟩
        · refine ⟨S, .refl, ?_⟩
          have e5 : (decide (1 ≤ rooms.length) && decide (rooms.length ≤ 5)) = false := by
            by_cases k1 : 1 ≤ rooms.length
            · have k2 : ¬ rooms.length ≤ 5 := fun z => h1 ⟨k1, z⟩
              simp [k2]
            · simp [k1]
          have e6 : isHouseD (.tup [.tup rooms, b, c, d]) = false := by
            cases b <;> simp only [isHouseD, e5, Bool.false_and]
          by_cases k1 : (1 : Int) ≤ (rooms.length : Int)
          · have k2 : ¬ ((rooms.length : Int) ≤ 5) := by omega
            simp [k1, k2, e6]
          · simp [k1, e6]
      | _ =>
        have e4 : (ta == "tuple") = false := ea
        exact ⟨S, .refl, by simp [hta, e4, isHouseD]⟩
    · have h5 : ¬ ((xs.length : Int) = 4) := by omega
      refine ⟨S, .refl, ?_⟩
      simp [h5, house_len h4]
  | _ =>
    have e3 : (t == "tuple") = false := e2
    exact ⟨S, .refl, by simp [ht, e3, isHouseD]⟩
end
end MP

namespace MP
open PySem L2
section
variable {n : Nat} {x : D} {S : Store}
theorem perm_inv {α β : Type} {f : α → β} {g : β → α} (hg : ∀ a, g (f a) = a) {zs : List β} {l : List α} (h : zs.Perm (l.map f)) : ∃ l' : List α, zs = l'.map f ∧ l'.Perm l := by
  refine ⟨zs.map g, ?_, ?_⟩
  · rw [List.map_map]
    symm
    have : ∀ z ∈ zs, (f ∘ g) z = z := by
      intro z hz
      obtain ⟨a, _, rfl⟩ := List.mem_map.mp (h.mem_iff.mp hz)
      show f (g (f a)) = f a
      rw [hg]
    exact (List.map_congr_left this).trans (List.map_id _)
  · have e : (l.map f).map g = l := by
      rw [List.map_map]
      exact (List.map_congr_left fun a _ => hg a).trans (List.map_id _)
    rw [← e]
    exact h.map g
theorem sortD_spec {xs : List D} {ps : List PyData} (hp : xs.mapM (toPy S dep) = some ps) (ha : allAlike ps = true) (hs : sortable ps = true) :
    ∃ zs : List (D × PyData), sortD S xs = some (zs.map Prod.fst) ∧ zs.Perm (xs.zip ps) ∧ zs.Pairwise (fun a b => PySem.W.dataLe false Prod.snd a b = true) := by
  refine ⟨(xs.zip ps).mergeSort (PySem.W.dataLe false Prod.snd), ?_, List.mergeSort_perm _ _, ?_⟩
  · unfold sortD
    rw [hp]
    simp [ha, hs]
  · have T := PySem.W.sortLe_total (PyProof.Rows.listOrd PyProof.Rows.itemOrd) false (fun b : D × PyData => PySem.W.keyToks b.2)
    exact List.pairwise_mergeSort (fun a b c h1 h2 => T.trans a b c h1 h2) (fun a b => by rw [Bool.or_eq_true]; exact T.total a b) _
theorem py_tup (f : Nat) (xs : List D) : toPy S (f + 1) (.tup xs) = (xs.mapM (toPy S f)).map PyData.tuple := by simp only [toPy]
theorem py_lst {f a : Nat} {xs : List D} (h : S[a]? = some (.lst xs)) : toPy S (f + 1) (.ref a) = (xs.mapM (toPy S f)).map PyData.list := by simp only [toPy, h]
theorem py_dic {f a : Nat} {kvs : List (Key × D)} (h : S[a]? = some (.dic kvs)) : toPy S (f + 1) (.ref a) = (kvs.mapM fun kv => (toPy S f kv.2).map fun v => (kP kv.1, v)).map PyData.dict := by simp only [toPy, h]
theorem py_int (f : Nat) (i : Int) : toPy S f (.int i) = some (.int i) := by cases f <;> rfl
theorem py_str (f : Nat) (i : Str) : toPy S f (.str i) = some (.str i) := by cases f <;> rfl
theorem py_bl (f : Nat) (i : Bool) : toPy S f (.bl i) = some (.bool i) := by cases f <;> rfl
theorem py_non (f : Nat) : toPy S f .non = some .none := by cases f <;> rfl
theorem dep_eq : dep = 58 + 1 + 1 := rfl
theorem mapM_ints (f : Nat) (ns : List Int) : (ns.map D.int).mapM (toPy S f) = some (ns.map PyData.int) := by
  induction ns with
  | nil => rfl
  | cons a ns ih =>
    have e : toPy S f (.int a) = some (.int a) := by cases f <;> rfl
    simp [List.mapM_cons, e, ih]
theorem le_int (a b : Int) : PySem.W.dataLe (β := D × PyData) false Prod.snd (.int a, .int a) (.int b, .int b) = decide (a ≤ b) := by
  show (!PyProof.Rows.lexLt PyProof.Rows.itemOrd [.inl b] [.inl a]) = _
  simp [PyProof.Rows.lexLt, PyProof.Rows.itemOrd, PyProof.Rows.itemLt]
  by_cases h : a ≤ b
  · simp [h]
  · simp [h]; omega
theorem alike_ints (ns : List Int) : allAlike (ns.map PyData.int) = true ∧ sortable (ns.map PyData.int) = true := by
  constructor
  · simp [allAlike, PySem.W.alike]
  · simp [sortable]
theorem sort_ints (ns : List Int) : ∃ ms : List Int, sortD S (ns.map D.int) = some (ms.map D.int) ∧ ms.Perm ns ∧ ms.Pairwise (· ≤ ·) := by
  obtain ⟨zs, h1, h2, h3⟩ := sortD_spec (S := S) (mapM_ints dep ns) (alike_ints ns).1 (alike_ints ns).2
  have e : (ns.map D.int).zip (ns.map PyData.int) = ns.map fun a => (D.int a, PyData.int a) := by
    clear h1 h2 h3
    induction ns with
    | nil => rfl
    | cons a ns ih => simp [ih]
  rw [e] at h2
  obtain ⟨ms, rfl, h4⟩ := perm_inv (g := fun z : D × PyData => match z.1 with | .int i => i | _ => 0) (fun _ => rfl) h2
  refine ⟨ms, by rw [h1, List.map_map]; rfl, h4, ?_⟩
  rw [List.pairwise_map] at h3
  exact h3.imp fun {a b} h => by rw [le_int] at h; exact of_decide_eq_true h
def pairP (p : Int × Int) : PyData := .tuple [.int p.1, .int p.2]
theorem mapM_pairs (f : Nat) (ps : List (Int × Int)) : (ps.map pairD).mapM (toPy S (f + 2)) = some (ps.map pairP) := by
  induction ps with
  | nil => rfl
  | cons a ns ih =>
    have e : toPy S (f + 2) (pairD a) = some (pairP a) := by rw [pairD, py_tup]; simp [pairP, List.mapM_cons, py_int]
    simp [List.mapM_cons, e, ih]
theorem le_pair (p q : Int × Int) : PySem.W.dataLe (β := D × PyData) false Prod.snd (pairD p, pairP p) (pairD q, pairP q) = !ltP q p := by
  obtain ⟨a, b⟩ := p
  obtain ⟨c, d⟩ := q
  show (!PyProof.Rows.lexLt PyProof.Rows.itemOrd [.inl 1, .inl c, .inl 1, .inl d, .inl 0] [.inl 1, .inl a, .inl 1, .inl b, .inl 0]) = _
  simp [PyProof.Rows.lexLt, PyProof.Rows.itemOrd, PyProof.Rows.itemLt, ltP]
  by_cases h : c < a
  · simp [h]
  · by_cases h' : c = a
    · simp [h']
    · simp [h, h', show a < c by omega]
theorem alike_pairs (ps : List (Int × Int)) : allAlike (ps.map pairP) = true ∧ sortable (ps.map pairP) = true := by
  constructor
  · simp [allAlike, PySem.W.alike, PySem.W.alikeAll, pairP]
  · simp [sortable, pairP]
theorem sort_pairs (ps : List (Int × Int)) : ∃ ms : List (Int × Int), sortD S (ps.map pairD) = some (ms.map pairD) ∧ ms.Perm ps ∧ ms.Pairwise (fun p q => ltP q p = false) := by
  obtain ⟨zs, h1, h2, h3⟩ := sortD_spec (S := S) (mapM_pairs 58 ps) (alike_pairs ps).1 (alike_pairs ps).2
  have e : (ps.map pairD).zip (ps.map pairP) = ps.map fun a => (pairD a, pairP a) := by
    clear h1 h2 h3
    induction ps with
    | nil => rfl
    | cons a ns ih => simp [ih]
  rw [e] at h2
  obtain ⟨ms, rfl, h4⟩ := perm_inv (f := fun a => (pairD a, pairP a)) (g := fun z : D × PyData => match z.1 with | .tup [.int i, .int j] => (i, j) | _ => (0, 0)) (fun _ => rfl) h2
  refine ⟨ms, by rw [h1, List.map_map]; rfl, h4, ?_⟩
  rw [List.pairwise_map] at h3
  exact h3.imp fun {a b} h => by rw [le_pair] at h; simpa using h
theorem sort_asc {ps : List (Int × Int)} (h : ps.Pairwise (fun p q => ltP q p = false)) (nd : ps.Nodup) : ascI ps = true := by
  induction ps with
  | nil => rfl
  | cons p ps ih =>
    rw [List.pairwise_cons] at h
    rw [List.nodup_cons] at nd
    cases ps with
    | nil => rfl
    | cons q ps =>
      have h1 := h.1 q List.mem_cons_self
      have h2 : p ≠ q := fun e => nd.1 (e ▸ List.mem_cons_self)
      simp only [ascI, ih h.2 nd.2, Bool.and_true]
      obtain ⟨a, b⟩ := p
      obtain ⟨c, d⟩ := q
      simp [ltP] at h1 h2 ⊢
      omega
/-! lists of ints, told to be equal -/
theorem eqvAll_ints (ns ms : List Int) : PyData.eqvAll (ns.map .int) (ms.map .int) = decide (ns = ms) := by
  induction ns generalizing ms with
  | nil => cases ms <;> simp [PyData.eqvAll]
  | cons a ns ih => cases ms with
    | nil => simp [PyData.eqvAll]
    | cons b ms =>
      simp [PyData.eqvAll, PyData.eqv, ih]
      by_cases h : a = b <;> simp [h]
theorem lay_ints (ns : List Int) : PyData.canLayAll0 (ns.map .int) = true := by
  induction ns with
  | nil => rfl
  | cons a ns ih => simp [PyData.canLayAll0, PyData.canLay0, ih]
theorem eq_intL {a b : Nat} {ns ms : List Int} (h1 : S[a]? = some (.lst (ns.map D.int))) (h2 : S[b]? = some (.lst (ms.map D.int))) : eqD S (.ref a) (.ref b) = some (decide (ns = ms)) := by
  unfold eqD
  have t1 : toPy S dep (.ref a) = some (.list (ns.map .int)) := by rw [dep_eq, py_lst h1, mapM_ints]; rfl
  have t2 : toPy S dep (.ref b) = some (.list (ms.map .int)) := by rw [dep_eq, py_lst h2, mapM_ints]; rfl
  simp only [isFlat, Bool.false_and, Bool.false_eq_true, if_false, lst_ref h1, lst_ref h2]
  cases ns with
  | nil => cases ms <;> simp
  | cons x ns =>
    cases ms with
    | nil => simp
    | cons y ms =>
      simp only [t1, t2, PyData.canLay0, lay_ints, Bool.and_self, if_true, PyData.eqv, eqvAll_ints]
      simp
theorem desc_iff (ns ms : List Int) (hp : ms.Perm ns) (hs : ms.Pairwise (· ≤ ·)) : decide (ns = ms.reverse) = descI ns := by
  have pw : ∀ {l : List Int}, descI l = true ↔ l.Pairwise (fun a b => b ≤ a) := by
    intro l
    induction l with
    | nil => simp [descI]
    | cons a l ih =>
      cases l with
      | nil => simp [descI]
      | cons b l =>
        rw [descI, Bool.and_eq_true, ih, List.pairwise_cons (a := a)]
        simp only [decide_eq_true_eq]
        constructor
        · rintro ⟨h1, h2⟩
          refine ⟨fun c hc => ?_, h2⟩
          rcases List.mem_cons.mp hc with rfl | hc
          · exact h1
          · have := (List.pairwise_cons.mp h2).1 c hc
            omega
        · rintro ⟨h1, h2⟩
          exact ⟨h1 b List.mem_cons_self, h2⟩
  have rs : ms.reverse.Pairwise (fun a b => b ≤ a) := by rw [List.pairwise_reverse]; exact hs
  by_cases h : ns = ms.reverse
  · rw [decide_eq_true h, h, eq_comm, pw]
    exact rs
  · rw [decide_eq_false h]
    symm
    rw [← Bool.not_eq_true, pw]
    intro q
    refine h (List.Perm.eq_of_pairwise (le := fun a b => b ≤ a) (fun a b _ _ h1 h2 => by omega) q rs ?_)
    exact (hp.symm).trans (List.reverse_perm ms).symm
end
end MP

namespace MP
open PySem L2
section
variable {n : Nat} {x : D} {S : Store}
/-- a comprehension over a tuple with a condition -/
theorem lc_fil {Γ : Cal} {r : Env} {i : Nat} {cond elt : C} {xs : List D} {P : Res D → Prop} (g : D → Bool) (f : D → D) (hl : xs.length ≤ lim)
    (h : ∀ x ∈ xs, ∀ S', Grow S S' → ∃ S'', Grow S' S'' ∧ evE Γ cond (r.set i (some x)) S' = .ok (.bl (g x)) S'')
    (h2 : ∀ x ∈ xs, ∀ S', Grow S S' → g x = true → ∃ S'', Grow S' S'' ∧ evE Γ elt (r.set i (some x)) S' = .ok (f x) S'')
    (k : ∀ S' j, Grow S S' → S'[j]? = some (.lst ((xs.filter g).map f)) → P (.ok (.ref j) S')) : P (lcRun Γ (.one i) cond elt r S (.fix xs)) := by
  obtain ⟨acc, S', h1, h3, h4⟩ := lcL_ind (src := .fix xs) (body := lcT Γ (.one i) cond elt r) (fun k acc S' => Grow S S' ∧ acc = ((xs.take k).filter g).map f) (n := xs.length) (by
      intro k acc S' hk ⟨g1, e⟩
      obtain ⟨S1, g2, e2⟩ := h xs[k] (by simp) S' g1
      cases hg : g xs[k] with
      | false =>
        refine ⟨xs[k], none, S1, by simp, ?_, g1.trans g2, ?_⟩
        · simp [e2, hg]
        · rw [e, List.take_add_one, List.filter_append, List.map_append, List.getElem?_eq_getElem hk]
          simp [hg]
      | true =>
        obtain ⟨S2, g3, e3⟩ := h2 xs[k] (by simp) S1 (g1.trans g2) hg
        refine ⟨xs[k], some (f xs[k]), S2, by simp, ?_, g1.trans (g2.trans g3), ?_⟩
        · simp [e2, hg, e3]
        · rw [e, List.take_add_one, List.filter_append, List.map_append, List.getElem?_eq_getElem hk]
          simp [hg]) (by intro acc S' _; simp) xs.length 0 [] S (by omega) ⟨.refl, by simp⟩
  unfold lcRun
  rw [len_fix, if_pos hl, h1, bind_ok, newL_eq]
  refine k _ _ (h3.trans (.one _)) ?_
  rw [get_last, h4]
  simp
theorem getR_set {r : Env} {i : Nat} {x : D} (h : i < r.length) : getR (r.set i (some x)) i S = .ok x S := by
  induction r generalizing i with
  | nil => simp at h
  | cons o r ih =>
    cases i with
    | zero => simp
    | succ i =>
      simp only [List.set_cons_succ, getR_s]
      exact ih (by simpa using h)
theorem ne_nil {a b : Nat} {xs : List D} (h : S[a]? = some (.lst xs)) (h2 : S[b]? = some (.lst [])) : cmpD .NotEq (.ref a) (.ref b) S = .ok (.bl (!xs.isEmpty)) S := by
  have e : eqD S (.ref a) (.ref b) = some xs.isEmpty := by
    unfold eqD
    simp only [isFlat, Bool.false_and, Bool.false_eq_true, if_false, lst_ref h, lst_ref h2]
  simp only [cmpD, e, ofO_some]
theorem fil_nil (xs : List D) (g : D → Bool) (f : D → D) : ((xs.filter fun x => !g x).map f).isEmpty = xs.all g := by
  induction xs with
  | nil => rfl
  | cons a xs ih => cases h : g a <;> simp_all
theorem rev_ref {a : Nat} {xs : List D} (h : S[a]? = some (.lst xs)) : revD (.ref a) S = .ok (.ref S.length) (S ++ [.lst xs.reverse]) := by simp [revD, lst_ref h]
theorem sorted_seq {xs ys : List D} (h : seqOf S x = some xs) (hs : sortD S xs = some ys) : bltD .sorted [x] S = .ok (.ref S.length) (S ++ [.lst ys]) := by
  rw [pb_sorted, h, Option.bind_some, hs]
  rfl
theorem list_seq {xs : List D} (h : seqOf S x = some xs) : bltD .list [x] S = .ok (.ref S.length) (S ++ [.lst xs]) := by
  rw [pb_list, h]
  rfl
theorem eqL_ints {a b : Nat} {ns ms : List Int} (h1 : S[a]? = some (.lst (ns.map D.int))) (h2 : S[b]? = some (.lst (ms.map D.int))) : cmpD .Eq (.ref a) (.ref b) S = .ok (.bl (decide (ns = ms))) S := by
  simp only [cmpD, eq_intL h1 h2, ofO_some]
theorem law_is_kind_ok (h : Dc S x) : ∃ S', Grow S S' ∧ callF DEFS WW (n + 3) i__law_is_kind [x] S = .ok (.bl (isKindD x)) S' := by
  rw [cF_eq D__law_is_kind rfl]
  simp only [c__law_is_kind, k__law_is_kind]
  obtain ⟨t, ht, _, e2, _⟩ := ty_of h.cl
  cases x with
  | tup xs =>
    match xs, h with
    | [], h => exact ⟨S, .refl, by simp [isKindD]⟩
    | [a], h => exact ⟨S, .refl, by simp [isKindD]⟩
    | a :: b :: c :: l, h => exact ⟨S, .refl, by simp [isKindD, show ¬ ((l.length : Int) + 1 + 1 + 1 = 2) by omega]⟩
    | [a, b], h =>
      have ha := (h.mem (x := a) (by simp)).cl
      have hb := h.mem (x := b) (by simp)
      simp [ha, law_within_ok, show atI [a, b] 0 = some a from rfl]
      cases hw : withinD a 1 999 with
      | false =>
        refine ⟨S, .refl, ?_⟩
        cases b <;> simp [isKindD, hw]
      | true =>
        simp [show atI [a, b] 1 = some b from rfl]
        obtain ⟨t', ht', _, e3, _⟩ := ty_of hb.cl
        cases b with
        | tup rs =>
          simp
          by_cases h4 : rs.length = 4
          · obtain ⟨p, q, u, v, rfl⟩ := list4 h4
            have hm := fun y hy => (hb.mem (x := y) hy).cl
            simp [show atI [a, .tup [p, q, u, v]] 1 = some (.tup [p, q, u, v]) from rfl]
            refine lc_fil (P := fun z => ∃ S', Grow S S' ∧ ends (thenS ((z.bind _).bind _) _) = .ok _ S') (fun z => !withinD z 0 9) id (by show 4 ≤ lim; decide) (fun z hz S1 g1 => ⟨S1, .refl, by simp [law_within_ok (g1.cl (hm z hz))]⟩) (fun z hz S1 g1 _ => ⟨S1, .refl, by simp⟩) fun S1 j g1 hj => ?_
            simp only [bind_ok, kA_eq, e_lst, a_nil, newL_eq, ne_nil (get_app hj) get_last, fil_nil]
            have g2 : Grow S (S1 ++ [O.lst []]) := g1.trans (.one _)
            cases ha4 : [p, q, u, v].all (fun x => withinD x 0 9) with
            | false =>
              refine ⟨_, g2, ?_⟩
              simp only [Bool.not_false, kT_t, s_seq, s_ret, e_val, bind_ok, rtR_eq, then_rt, ends_rt]
              simp only [isKindD, ha4, Bool.and_false, Bool.false_and]
            | true =>
              simp only [Bool.not_true, kT_f, s_skip, then_nx]
              have ha5 := ha4
              simp at ha4
              obtain ⟨a1, a2, a3, a4⟩ := ha4
              obtain ⟨p, rfl, _, _⟩ := within_int a1
              obtain ⟨q, rfl, _, _⟩ := within_int a2
              obtain ⟨u, rfl, _, _⟩ := within_int a3
              obtain ⟨v, rfl, _, _⟩ := within_int a4
              generalize S1 ++ [O.lst []] = S2 at g2 ⊢
              obtain ⟨ms, s1, s2, s3⟩ := sort_ints (S := S2 ++ [.lst ([p, q, u, v].map D.int)]) [p, q, u, v]
              have l1 : (S2 ++ [O.lst ([p, q, u, v].map D.int)] ++ [O.lst (ms.map D.int)])[(S2 ++ [O.lst ([p, q, u, v].map D.int)]).length]? = some (.lst (ms.map D.int)) := get_last
              have l2 := get_app (T := [O.lst (ms.map D.int).reverse]) (get_app (T := [O.lst (ms.map D.int)]) (get_last (S := S2) (o := .lst ([p, q, u, v].map D.int))))
              have l3 := get_last (S := S2 ++ [O.lst ([p, q, u, v].map D.int)] ++ [O.lst (ms.map D.int)]) (o := .lst (ms.map D.int).reverse)
              rw [← List.map_reverse] at l2 l3
              refine ⟨S2 ++ [O.lst ([p, q, u, v].map D.int)] ++ [O.lst (ms.map D.int)] ++ [O.lst (ms.reverse.map D.int)], g2.trans ((Grow.one _).trans ((Grow.one _).trans (Grow.one _))), ?_⟩
              simp only [s_seq, s_ret, e_cmp, e_blt, e_rev, a_cons, a_nil, e_idx, e_var, getR_0, getR_s, e_val, bind_ok, kA_eq, kCons_eq, consR_eq, idx_tup, show atI [a, .tup [.int p, .int q, .int u, .int v]] 1 = some (.tup [.int p, .int q, .int u, .int v]) from rfl, ofO_some, id]
              rw [list_seq (seq_tup _)]
              simp only [bind_ok, kA_eq, e_rev, e_blt, a_cons, a_nil, e_idx, e_var, getR_0, getR_s, e_val, kCons_eq, consR_eq, idx_tup, show atI [a, .tup [.int p, .int q, .int u, .int v]] 1 = some (.tup [.int p, .int q, .int u, .int v]) from rfl, ofO_some, id]
              have hint : [D.int p, .int q, .int u, .int v] = [p, q, u, v].map D.int := rfl
              rw [hint, sorted_seq (seq_tup _) s1, bind_ok, rev_ref l1, bind_ok, ← List.map_reverse, eqL_ints l2 l3, bind_ok, rtR_eq, then_rt, ends_rt, desc_iff _ _ s2 s3, ← hint]
              · simp only [isKindD, hw, ha5, intsOf, Option.map_some, List.length_cons, List.length_nil, decide_true, Bool.and_true, Bool.true_and]
          · refine ⟨S, .refl, ?_⟩
            have h5 : ¬ ((rs.length : Int) = 4) := by omega
            simp [isKindD, h4, h5, hw, show atI [a, .tup rs] 1 = some (.tup rs) from rfl]
        | _ =>
          have e4 : (t' == "tuple") = false := e3
          exact ⟨S, .refl, by simp [ht', e4, isKindD]⟩
  | _ =>
    have e3 : (t == "tuple") = false := e2
    exact ⟨S, .refl, by simp [ht, e3, isKindD]⟩
/-! the law's house -/
def chkP (m : Int) (b : Int × Int) : List D → Bool
  | [] => true
  | .tup [.int a, .int c] :: ys => decide (0 ≤ a) && decide (a < c) && decide (c ≤ m) && ltP b (a, c) && chkP m (a, c) ys
  | _ :: _ => false
theorem chk_pairs {m : Int} : ∀ (xs : List D) (b : Int × Int), chkP m b xs = (xs.all (pairOkD m) && (match pairsOf xs with | some ps => ascI (b :: ps) | none => false)) := by
  intro xs
  induction xs with
  | nil => intro b; simp [chkP, pairsOf, ascI]
  | cons x xs ih =>
    intro b
    unfold chkP
    split
    · rename_i e; cases e
    · rename_i a c ys e
      cases e
      rw [ih]
      simp only [pairsOf, List.all_cons, pairOkD]
      cases hp : pairsOf xs with
      | none => simp
      | some ps =>
        simp only [Option.map_some, ascI]
        cases decide (0 ≤ a) <;> cases decide (a < c) <;> cases decide (c ≤ m) <;> cases xs.all (pairOkD m) <;> simp [ltP]
    · rename_i e
      cases e
      rename_i hne
      have : pairOkD m x = false := by
        unfold pairOkD
        split
        · rename_i a c; exact absurd rfl (hne a c)
        · rfl
      simp [this]
theorem apart_chk {m : Int} (xs : List D) : areApartD m (.tup xs) = chkP m (-1, -1) xs := by
  rw [chk_pairs, areApartD]
  cases ha : xs.all (pairOkD m) with
  | false => rfl
  | true =>
    obtain ⟨ps, rfl, hp⟩ := all_pairs ha
    rw [hp]
    cases ps with
    | nil => rfl
    | cons p ps =>
      simp only [Bool.true_and, ascI]
      have h0 : 0 ≤ p.1 := by
        simp [pairOkD, pairD] at ha
        exact ha.1.1.1
      simp [show (-1 : Int) < p.1 by omega]
theorem le_pairC (p q : Int × Int) : cmpD .LtE (pairD p) (pairD q) S = .ok (.bl (!ltP q p)) S := by
  obtain ⟨a, b⟩ := p
  obtain ⟨c, d⟩ := q
  simp [cmpD, leD, intsOf, HT.lexLt, pairD, ltP]
  by_cases h' : c = a
  · subst h'
    by_cases h : d = b
    · subst h; simp
    · simp [h]
  · simp [h']
end
end MP

namespace MP
open PySem L2
section
variable {n : Nat} {x : D} {S : Store}
theorem isTup_of {t : String} (h : tyD S x = some t) : (t == "tuple") = isTupD x := by
  obtain ⟨t', h1, _, h2, _⟩ := ty_of ⟨t, h⟩
  rw [h] at h1
  cases h1
  exact h2
theorem house_ntup {a b c d : D} (h : [a, b, c].all isTupD = false) : isHouseD (.tup [a, b, c, d]) = false := by
  cases a <;> try rfl
  cases b <;> try rfl
  cases c <;> first | (simp [isHouseD, areApartD]; done) | (simp [isTupD] at h; done)
theorem tup_of {a : D} (h : isTupD a = true) : ∃ l, a = .tup l := by
  cases a <;> simp [isTupD] at h
  exact ⟨_, rfl⟩
theorem chk_ntup {m : Int} {b : Int × Int} {y : D} {ys : List D} (h : ∀ a c, y ≠ .tup [.int a, .int c]) : chkP m b (y :: ys) = false := by
  unfold chkP
  split
  · rename_i e; cases e
  · rename_i a c ys e; cases e; exact absurd rfl (h a c)
  · rfl
theorem law_is_house_ok (h : Dc S x) : ∃ S', Grow S S' ∧ callF DEFS WW (n + 4) i__law_is_house [x] S = .ok (.bl (isHouseD x)) S' := by
  rw [cF_eq D__law_is_house rfl]
  simp only [c__law_is_house, k__law_is_house]
  obtain ⟨t, ht, _, e2, _⟩ := ty_of h.cl
  cases x with
  | tup xs =>
    by_cases h4 : xs.length = 4
    · obtain ⟨a, b, c, d, rfl⟩ := list4 h4
      have da := h.mem (x := a) (by simp)
      have db := h.mem (x := b) (by simp)
      have dc := h.mem (x := c) (by simp)
      have dd := h.mem (x := d) (by simp)
      have dm : ∀ y ∈ [a, b, c], Dc S y := fun y hy => h.mem (by simp at hy ⊢; rcases hy with h | h | h <;> simp [h])
      simp [show cut [a, b, c, d] none (some 3) = [a, b, c] from rfl]
      refine lc_bl (P := fun z => ∃ S', Grow S S' ∧ ends (thenS ((((z.bind _).bind _).bind _).bind _) _) = .ok _ S') isTupD (by show 3 ≤ lim; decide) (fun z hz S1 g1 => ⟨S1, .refl, ?_⟩) fun S1 j g1 hj => ?_
      · obtain ⟨t', ht', _, e3, _⟩ := ty_of (g1.cl (dm z hz).cl)
        simp [ht', e3]
      · simp only [bind_ok, kCons_eq, a_nil, consR_eq, pb_all, hj, all_bl, notD_bl]
        cases h3 : [a, b, c].all isTupD with
        | false =>
          refine ⟨S1, g1, ?_⟩
          simp only [Bool.not_false, kT_t, s_seq, s_ret, e_val, bind_ok, rtR_eq, then_rt, ends_rt, house_ntup h3]
        | true =>
          simp only [Bool.not_true, kT_f, s_skip, then_nx]
          simp at h3
          obtain ⟨rooms, rfl⟩ := tup_of h3.1
          obtain ⟨kinds, rfl⟩ := tup_of h3.2.1
          obtain ⟨pairs, rfl⟩ := tup_of h3.2.2
          simp
          by_cases h1 : 1 ≤ rooms.length ∧ rooms.length ≤ 5
          · have i1 : (1 : Int) ≤ (rooms.length : Int) := by omega
            have i2 : (rooms.length : Int) ≤ 5 := by omega
            simp [i1, i2]
            refine lc_fil (P := fun z => ∃ S', Grow S S' ∧ ends (thenS ((z.bind _).bind _) _) = .ok _ S') (fun z => !withinD z 0 3) id da.len (fun z hz S2 g2 => ⟨S2, .refl, by simp [law_within_ok (g2.cl (g1.cl (da.mem hz).cl))]⟩) (fun z hz S1 g1 _ => ⟨S1, .refl, by simp⟩) fun S2 j g2 hj2 => ?_
            simp only [bind_ok, kA_eq, e_lst, a_nil, newL_eq, ne_nil (get_app hj2) get_last, fil_nil]
            have g3 : Grow S (S2 ++ [O.lst []]) := g1.trans (g2.trans (.one _))
            generalize S2 ++ [O.lst []] = S3 at g3 ⊢
            cases hr : rooms.all (fun z => withinD z 0 3) with
            | false =>
              refine ⟨S3, g3, ?_⟩
              simp only [Bool.not_false, kT_t, s_seq, s_ret, e_val, bind_ok, rtR_eq, then_rt, ends_rt, isHouseD, hr, Bool.and_false, Bool.false_and]
            | true =>
              simp only [Bool.not_true, kT_f, s_skip, then_nx]
              simp
              by_cases h2 : 1 ≤ kinds.length ∧ kinds.length ≤ 4
              · have j1 : (1 : Int) ≤ (kinds.length : Int) := by omega
                have j2 : (kinds.length : Int) ≤ 4 := by omega
                simp [j1, j2]
                refine lc_fil (P := fun z => ∃ S', Grow S S' ∧ ends (thenS ((z.bind _).bind _) _) = .ok _ S') (fun z => !isKindD z) id db.len (fun z hz S4 g4 => ?_) (fun z hz S1 g1 _ => ⟨S1, .refl, by simp⟩) fun S4 j g4 hj4 => ?_
                · obtain ⟨S5, g5, e5⟩ := law_is_kind_ok (n := n) (g4.dc (g3.dc (db.mem hz)))
                  exact ⟨S5, g5, by simp [e5]⟩
                · simp only [bind_ok, kA_eq, e_lst, a_nil, newL_eq, ne_nil (get_app hj4) get_last, fil_nil]
                  have g5 : Grow S (S4 ++ [O.lst []]) := g3.trans (g4.trans (.one _))
                  generalize S4 ++ [O.lst []] = S5 at g5 ⊢
                  cases hk : kinds.all isKindD with
                  | false =>
                    refine ⟨S5, g5, ?_⟩
                    simp only [Bool.not_false, kT_t, s_seq, s_ret, e_val, bind_ok, rtR_eq, then_rt, ends_rt, isHouseD, hk, Bool.and_false, Bool.false_and]
                  | true =>
                    simp only [Bool.not_true, kT_f, s_skip, then_nx]
                    have hh : isHouseD (.tup [.tup rooms, .tup kinds, .tup pairs, d]) = (chkP ((kinds.length : Int) - 1) (-1, -1) pairs && withinD d 1 9) := by
                      simp only [isHouseD, apart_chk, hr, hk, h1.1, h1.2, h2.1, h2.2, decide_true, Bool.and_true, Bool.true_and]
                    rw [hh]
                    simp
                    refine for_fix (P := fun z => ∃ S', Grow S S' ∧ ends (thenS z _) = .ok _ S') (fun i r S' => Grow S S' ∧ ∃ b o, r = [some (.tup [.tup rooms, .tup kinds, .tup pairs, d]), none, some (.tup rooms), some (.tup kinds), some (.tup pairs), some d, none, none, some (pairD b), o] ∧ chkP ((kinds.length : Int) - 1) (-1, -1) pairs = chkP ((kinds.length : Int) - 1) b (pairs.drop i))
                      (fun e S' => Grow S S' ∧ e = .bl false ∧ chkP ((kinds.length : Int) - 1) (-1, -1) pairs = false) ⟨g5, (-1, -1), _, rfl, rfl⟩ ?_ ?_ ?_
                    · rintro i y r S6 hy ⟨g6, b, o, rfl, q⟩
                      have hdr : pairs.drop i = y :: pairs.drop (i + 1) := by
                        obtain ⟨hi, e⟩ := List.getElem?_eq_some_iff.mp hy
                        rw [← e]
                        exact List.drop_eq_getElem_cons hi
                      rw [hdr] at q
                      have hd : Dc S6 y := g6.dc (dc.mem (List.mem_of_getElem? hy))
                      obtain ⟨t', ht', _, e3, _⟩ := ty_of hd.cl
                      cases y with
                      | tup ys =>
                        simp
                        by_cases h2 : ys.length = 2
                        · obtain ⟨a, c, rfl⟩ : ∃ a b, ys = [a, b] := by
                            match ys, h2 with
                            | [a, b], _ => exact ⟨a, b, rfl⟩
                          have ca := (hd.mem (x := a) (by simp)).cl
                          have cc := (hd.mem (x := c) (by simp)).cl
                          simp [show atI [a, c] 0 = some a from rfl, law_within_ok ca]
                          cases hw : withinD a 0 ((kinds.length : Int) - 1) with
                          | false =>
                            simp
                            refine ⟨g6, ?_⟩
                            rw [q]
                            by_cases z : ∃ p r, (D.tup [a, c]) = .tup [.int p, .int r]
                            · obtain ⟨p, r, e⟩ := z
                              cases e
                              simp [withinD] at hw
                              simp [chkP]
                              omega
                            · exact chk_ntup fun p r e => z ⟨p, r, e⟩
                          | true =>
                            obtain ⟨a, rfl, _, _⟩ := within_int hw
                            simp [show atI [D.int a, c] 0 = some (D.int a) from rfl, show atI [D.int a, c] 1 = some c from rfl, law_within_ok cc]
                            cases hw2 : withinD c (a + 1) ((kinds.length : Int) - 1) with
                            | false =>
                              simp
                              refine ⟨g6, ?_⟩
                              rw [q]
                              by_cases z : ∃ p r, (D.tup [.int a, c]) = .tup [.int p, .int r]
                              · obtain ⟨p, r, e⟩ := z
                                cases e
                                simp [withinD] at hw2
                                simp [chkP]
                                omega
                              · exact chk_ntup fun p r e => z ⟨p, r, e⟩
                            | true =>
                              obtain ⟨c, rfl, _, _⟩ := within_int hw2
                              simp
                              rw [show D.tup [.int a, .int c] = pairD (a, c) from rfl, le_pairC]
                              simp
                              cases hlt : ltP b (a, c) with
                              | false =>
                                simp
                                refine ⟨g6, ?_⟩
                                rw [q]
                                simp [chkP, hlt]
                              | true =>
                                simp only [kT_f, kT_t, s_skip, then_nx, s_seq, s_set, e_var, getR_0, getR_s, bind_ok, setR_eq, List.set_cons_succ, List.set_cons_zero, step_nx]
                                refine ⟨g6, a, c, ⟨_, rfl⟩, ?_⟩
                                rw [q]
                                simp only [chkP, hlt, Bool.and_true]
                                simp [withinD] at hw hw2
                                simp [show 0 ≤ a by omega, show a < c by omega, show c ≤ (kinds.length : Int) - 1 by omega]
                        · have h3 : ¬ ((ys.length : Int) = 2) := by omega
                          simp [h3]
                          refine ⟨g6, ?_⟩
                          rw [q]
                          exact chk_ntup fun p r e => by cases e; exact h2 rfl
                      | _ =>
                        have e4 : (t' == "tuple") = false := e3
                        simp [ht', e4]
                        refine ⟨g6, ?_⟩
                        rw [q]
                        exact chk_ntup fun p r e => by cases e
                    · rintro r S6 ⟨g6, b, o, rfl, q⟩
                      refine ⟨S6, g6, ?_⟩
                      rw [q]
                      simp [law_within_ok (g6.cl dd.cl), chkP]
                    · rintro e S6 ⟨g6, rfl, q⟩
                      exact ⟨S6, g6, by simp only [then_rt, ends_rt, q, Bool.false_and]⟩
              · refine ⟨S3, g3, ?_⟩
                have e5 : (decide (1 ≤ kinds.length) && decide (kinds.length ≤ 4)) = false := by
                  by_cases k1 : 1 ≤ kinds.length
                  · have k2 : ¬ kinds.length ≤ 4 := fun z => h2 ⟨k1, z⟩
                    simp [k2]
                  · simp [k1]
                by_cases k1 : (1 : Int) ≤ (kinds.length : Int)
                · have k2 : ¬ ((kinds.length : Int) ≤ 4) := by omega
                  simp [k1, k2]
                  simp only [isHouseD, e5, Bool.and_false, Bool.false_and]
                · simp [k1]
                  simp only [isHouseD, e5, Bool.and_false, Bool.false_and]
          · refine ⟨S1, g1, ?_⟩
            have e5 : (decide (1 ≤ rooms.length) && decide (rooms.length ≤ 5)) = false := by
              by_cases k1 : 1 ≤ rooms.length
              · have k2 : ¬ rooms.length ≤ 5 := fun z => h1 ⟨k1, z⟩
                simp [k2]
              · simp [k1]
            by_cases k1 : (1 : Int) ≤ (rooms.length : Int)
            · have k2 : ¬ ((rooms.length : Int) ≤ 5) := by omega
              simp [k1, k2]
              simp only [isHouseD, e5, Bool.false_and]
            · simp [k1]
              simp only [isHouseD, e5, Bool.false_and]
    · have h5 : ¬ ((xs.length : Int) = 4) := by omega
      refine ⟨S, .refl, ?_⟩
      simp [h5, house_len h4]
  | _ =>
    have e3 : (t == "tuple") = false := e2
    exact ⟨S, .refl, by simp [ht, e3, isHouseD]⟩
end
end MP

namespace MP
open PySem L2
def Pot (p : Nat) (S : Store) : Prop := ∃ v : Int, S[p]? = some (.lst [.int v])
/-- the pot may have changed, and the store may have grown -/
structure Gp (p : Nat) (S S' : Store) : Prop where
  len : S.length ≤ S'.length
  keep : ∀ i o, i ≠ p → S[i]? = some o → S'[i]? = some o
  pot : Pot p S'
section
variable {n p : Nat} {x : D} {S S' S'' : Store}
theorem Pot.lt (h : Pot p S) : p < S.length := by
  obtain ⟨v, h⟩ := h
  rcases Nat.lt_or_ge p S.length with q | q
  · exact q
  · rw [List.getElem?_eq_none q] at h; cases h
theorem Gp.refl (h : Pot p S) : Gp p S S := ⟨Nat.le_refl _, fun _ _ _ h => h, h⟩
theorem Gp.trans (h : Gp p S S') (h' : Gp p S' S'') : Gp p S S'' := ⟨Nat.le_trans h.len h'.len, fun i o hi e => h'.keep i o hi (h.keep i o hi e), h'.pot⟩
theorem Gp.grow (h : Pot p S) (g : Grow S S') : Gp p S S' := by
  obtain ⟨T, rfl⟩ := g
  obtain ⟨v, h⟩ := h
  exact ⟨by simp, fun i o _ e => get_app e, v, get_app h⟩
theorem Gp.one (h : Pot p S) (o : O) : Gp p S (S ++ [o]) := Gp.grow h (.one o)
theorem Gp.cl (h : Gp p S S') (c : cln S x) : cln S' x := by
  obtain ⟨t, c⟩ := c
  cases x with
  | ref i =>
    by_cases hi : i = p
    · subst hi
      obtain ⟨v, e⟩ := h.pot
      exact ⟨"list", by simp [tyD, e]⟩
    · simp only [tyD] at c
      cases e : S[i]? with
      | none => rw [e] at c; simp at c
      | some o =>
        rw [e] at c
        exact ⟨t, by simp only [tyD, h.keep i o hi e]; exact c⟩
  | _ => exact ⟨t, c⟩
theorem Gp.dc (h : Gp p S S') (d : Dc S x) : Dc S' x := by
  induction d with
  | non => exact .non
  | bl b => exact .bl b
  | int b => exact .int b
  | str b => exact .str b
  | ref c => exact .ref (h.cl c)
  | tup hl _ ih => exact .tup hl ih
theorem Gp.set (h : Pot p S) (v : Int) : Gp p S (S.set p (.lst [.int v])) := by
  have hp := h.lt
  refine ⟨by simp, fun i o hi e => ?_, v, by simp [hp]⟩
  rw [List.getElem?_set]
  rw [if_neg (fun e => hi e.symm)]
  exact e
theorem take_ok {m : Int} (h : Pot p S) (h0 : 0 < m) (h1 : m < 1073741824) : ∃ (i : Int) (S' : Store), callF DEFS WW (n + 1) i__law_take [.ref p, .int m] S = .ok (.int i) S' ∧ 0 ≤ i ∧ i < m ∧ Gp p S S' ∧ S'.length = S.length := by
  have h' := h
  obtain ⟨v, hv⟩ := h
  refine ⟨v % m, S.set p (.lst [.int (v / m)]), ?_, Int.emod_nonneg _ (by omega), Int.emod_lt_of_pos _ h0, .set h' _, by simp⟩
  rw [cF_eq D__law_take rfl]
  simp only [c__law_take, k__law_take]
  have at0 : ∀ y : D, atI [y] 0 = some y := fun _ => rfl
  simp [idx_ref hv, b_mod h0, b_div h0 h1, at0, putD, hv, ixN]
theorem at_mem {α : Type} {xs : List α} {i : Int} (h0 : 0 ≤ i) (h : i < xs.length) : ∃ x ∈ xs, atI xs i = some x := by
  obtain ⟨k, rfl⟩ : ∃ k : Nat, i = k := ⟨i.toNat, by omega⟩
  have hk : k < xs.length := by omega
  exact ⟨xs[k], by simp, by rw [at_nat]; simp [hk]⟩
theorem cell_ok (ns : List Int) (k : Nat) : ∃ c : Int, callF DEFS WW (n + 1) i__law_cell_at [.con (ns.map .int), .int k] S = .ok (.int c) S := by
  rw [cF_eq D__law_cell_at rfl]
  simp only [c__law_cell_at, k__law_cell_at]
  by_cases h : k < ns.length
  · refine ⟨ns[k], ?_⟩
    simp [h, at_nat]
  · refine ⟨0, ?_⟩
    simp [h]
theorem pow18 : binD .Pow (.int 10) (.int 18) S = .ok (.int 1000000000000000000) S := rfl
theorem mul_r {i j : Int} (h0 : -p64 < j) (h1 : j < p64) : mulOk i j = true := by simp [mulOk, h0, h1]
theorem mul_l {i j : Int} (h0 : -p64 < i) (h1 : i < p64) : mulOk i j = true := by simp [mulOk, h0, h1]
theorem mul_mm (X : Int) : binD .Mult (.int (X % 2147483647)) (.int (X % 2147483647)) S = .ok (.int (X % 2147483647 * (X % 2147483647))) S := by
  refine b_mul (mul_l ?_ ?_) <;> (unfold p64; omega)
theorem pot_ok (c : Int) : ∃ v : Int, callF DEFS WW (n + 1) i__law_pot [.int c] S = .ok (.ref S.length) (S ++ [.lst [.int v]]) := by
  rw [cF_eq D__law_pot rfl]
  simp only [c__law_pot, k__law_pot]
  simp [pow18]
  by_cases h : 1000000000000000000 ≤ c
  · simp [h, pow18]
  · simp [h]
    rw [show srcOf .rng [.int 64] S = some (.rng 0 64) from rfl]
    simp
    refine for_rng (P := fun z => ∃ v : Int, ends (thenS z _) = .ok (.ref S.length) (S ++ [.lst [.int v]])) (fun i r S' => S' = S ∧ ∃ (v : Int) (o1 o2 : Option D), r = [some (.int c), some (.int v), o1, o2]) (fun _ _ => False) ⟨rfl, 0, none, none, rfl⟩ ?_ ?_ (fun _ _ h => h.elim)
    · rintro i r S' hi ⟨rfl, v, o1, o2, rfl⟩
      have a1 : ∀ j : Int, binD .Mult (.int 7919) (.int j) S' = .ok (.int (7919 * j)) S' := fun j => b_mul (mul_l (by decide) (by decide))
      have a2 : ∀ j : Int, binD .Mult (.int j) (.int 48271) S' = .ok (.int (j * 48271)) S' := fun j => b_mul (mul_r (by decide) (by decide))
      have a3 : ∀ j : Int, binD .Mult (.int 69621) (.int j) S' = .ok (.int (69621 * j)) S' := fun j => b_mul (mul_l (by decide) (by decide))
      have a4 : ∀ j : Int, binD .Mult (.int j) (.int 2147483587) S' = .ok (.int (j * 2147483587)) S' := fun j => b_mul (mul_r (by decide) (by decide))
      have d1 : ∀ j : Int, binD .Mod (.int j) (.int 2147483629) S' = .ok (.int (j % 2147483629)) S' := fun j => b_mod (by decide)
      have d2 : ∀ j : Int, binD .Mod (.int j) (.int 2147483647) S' = .ok (.int (j % 2147483647)) S' := fun j => b_mod (by decide)
      have d3 : ∀ j : Int, binD .Mod (.int j) (.int 2147483587) S' = .ok (.int (j % 2147483587)) S' := fun j => b_mod (by decide)
      simp only [forT_one, s_seq, s_set, e_bin, e_var, getR_0, getR_s, e_val, bind_ok, kA_eq, List.set_cons_succ, List.set_cons_zero, a1, a2, a3, a4, d1, d2, d3, b_add, setR_eq, then_nx, mul_mm, s_skip, step_nx]
      exact ⟨trivial, _, _, _, rfl⟩
    · rintro r S' ⟨rfl, v, o1, o2, rfl⟩
      exact ⟨v, by simp⟩
/-! what is drawn in a comprehension -/
theorem lc_drawR {β : Type} {Γ : Cal} {r : Env} {i m : Nat} {lo : Int} {elt : C} {P : Res D → Prop} (f : β → D) (Pr : β → Prop) (hm : m ≤ lim) (hp : Pot p S)
    (h : ∀ k, k < m → ∀ S', Gp p S S' → ∃ (y : β) (S'' : Store), Pr y ∧ Gp p S' S'' ∧ evE Γ elt (r.set i (some (.int (lo + (k : Nat))))) S' = .ok (f y) S'')
    (k : ∀ (ys : List β) S' j, ys.length = m → (∀ y ∈ ys, Pr y) → Gp p S S' → S'[j]? = some (.lst (ys.map f)) → j ≠ p → S.length ≤ j → P (.ok (.ref j) S')) : P (lcRun Γ (.one i) .no elt r S (.rng lo m)) := by
  obtain ⟨acc, S', h1, ys, h2, h3, h4, h5⟩ := lcL_ind (src := .rng lo m) (body := lcT Γ (.one i) .no elt r) (fun k acc S' => ∃ ys : List β, acc = ys.map f ∧ ys.length = k ∧ (∀ y ∈ ys, Pr y) ∧ Gp p S S') (n := m) (by
      rintro k acc S' hk ⟨ys, rfl, h2, h3, g⟩
      obtain ⟨y, S'', e1, e2, e3⟩ := h k hk S' g
      refine ⟨.int (lo + k), some (f y), S'', by simp [hk], by simp [e3], ys ++ [y], by simp, by simp [h2], ?_, g.trans e2⟩
      intro z hz
      rcases List.mem_append.mp hz with hz | hz
      · exact h3 z hz
      · rw [List.mem_singleton.mp hz]; exact e1) (by intro acc S' _; simp) m 0 [] S (by omega) ⟨[], rfl, rfl, by simp, .refl hp⟩
  unfold lcRun
  rw [len_rng, if_pos hm, h1, bind_ok, newL_eq]
  have hpl := h5.pot.lt
  exact k ys _ _ h3 h4 (h5.trans (.one h5.pot _)) (by rw [get_last, h2]) (by omega) h5.len
end
end MP

namespace MP
open PySem L2
section
variable {n p : Nat} {x : D} {S S' S'' : Store}
theorem Gp.last (hp : Pot p S) {o : O} (g : Gp p (S ++ [o]) S') : S'[S.length]? = some o := g.keep _ _ (by have := hp.lt; omega) get_last
def knD (k : Int × List Int) : D := .tup [.int k.1, .tup (k.2.map .int)]
structure KOk (k : Int × List Int) : Prop where
  lo : 1 ≤ k.1
  hi : k.1 ≤ 999
  len : k.2.length = 4
  rs : ∀ r ∈ k.2, 0 ≤ r ∧ r ≤ 9
  desc : descI k.2 = true
theorem intsOf_map (ns : List Int) : intsOf (ns.map .int) = some ns := by
  induction ns with
  | nil => rfl
  | cons a ns ih => simp [intsOf, ih]
theorem all_within {ns : List Int} {lo hi : Int} (h : ∀ r ∈ ns, lo ≤ r ∧ r ≤ hi) : (ns.map D.int).all (fun x => withinD x lo hi) = true := by
  rw [List.all_eq_true]
  intro y hy
  obtain ⟨a, ha, rfl⟩ := List.mem_map.mp hy
  simp [withinD, h a ha]
theorem KOk.is {k : Int × List Int} (h : KOk k) : isKindD (knD k) = true := by
  simp only [isKindD, knD, all_within h.rs, intsOf_map, h.desc, List.length_map, h.len, decide_true, Bool.and_true]
  simp [withinD, h.lo, h.hi]
theorem desc_rev {ms : List Int} (h : ms.Pairwise (· ≤ ·)) : descI ms.reverse = true := by
  rw [← desc_iff ms.reverse ms (List.reverse_perm ms).symm h]
  simp
theorem kind_of_ok (hp : Pot p S) : ∃ (k : Int × List Int) (S' : Store), callF DEFS WW (n + 2) i__law_kind_of [.ref p] S = .ok (knD k) S' ∧ KOk k ∧ Gp p S S' := by
  rw [cF_eq D__law_kind_of rfl]
  simp only [c__law_kind_of, k__law_kind_of]
  simp
  obtain ⟨i1, S1, e1, a1, b1, g1, l1⟩ := take_ok (n := n) (p := p) (S := S ++ [.lst [.int 9, .int 3, .int 1, .int 9]]) (m := 4) (Gp.one hp _).pot (by decide) (by decide)
  rw [e1]
  have q1 := g1.last hp
  obtain ⟨y, hy, ey⟩ := at_mem (xs := [D.int 9, .int 3, .int 1, .int 9]) a1 b1
  simp [idx_ref q1, ey]
  have G1 : Gp p S S1 := (Gp.one hp _).trans g1
  obtain ⟨top, rfl, ht⟩ : ∃ top : Int, y = .int top ∧ 0 ≤ top ∧ top ≤ 9 := by
    simp at hy
    rcases hy with rfl | rfl | rfl | rfl <;> exact ⟨_, rfl, by decide, by decide⟩
  rw [show srcOf .rng [.int 4] S1 = some (.rng 0 4) from rfl]
  simp
  refine lc_drawR (P := fun z => ∃ a b S', ends (thenS (Res.bind (Res.bind (Res.bind (Res.bind z _) _) _) _) _) = .ok (knD (a, b)) S' ∧ KOk (a, b) ∧ Gp p S S') D.int (fun i => 0 ≤ i ∧ i ≤ top) (by decide) G1.pot (fun k hk S2 g2 => ?_) fun ys S2 j hl hy g2 hj hjp _ => ?_
  · obtain ⟨i2, S3, e2, a2, b2, g3, _⟩ := take_ok (n := n) (m := top + 1) g2.pot (by omega) (by omega)
    exact ⟨i2, S3, ⟨a2, by omega⟩, g3, by simp [e2]⟩
  · obtain ⟨ms, s1, s2, s3⟩ := sort_ints (S := S2) ys
    simp only [bind_ok, kCons_eq, a_nil, consR_eq, sorted_seq (seq_ref hj) s1, rev_ref get_last, setR_eq, then_nx, List.set_cons_succ, List.set_cons_zero]
    have G2 : Gp p S (S2 ++ [.lst (ms.map D.int)] ++ [.lst (ms.map D.int).reverse]) := (G1.trans g2).trans ((Gp.one g2.pot _).trans (Gp.one (Gp.one g2.pot _).pot _))
    have hr : (S2 ++ [.lst (ms.map D.int)] ++ [.lst (ms.map D.int).reverse])[(S2 ++ [O.lst (ms.map D.int)]).length]? = some (.lst (ms.map D.int).reverse) := get_last
    have hrp : (S2 ++ [O.lst (ms.map D.int)]).length ≠ p := by have := g2.pot.lt; simp; omega
    generalize S2 ++ [.lst (ms.map D.int)] ++ [.lst (ms.map D.int).reverse] = S3 at G2 hr ⊢
    generalize (S2 ++ [O.lst (ms.map D.int)]).length = rr at hr hrp ⊢
    simp
    obtain ⟨i3, S4, e3, a3, b3, g4, _⟩ := take_ok (n := n) (m := 20) G2.pot (by decide) (by decide)
    simp [e3]
    obtain ⟨i4, S5, e4, a4, b4, g5, _⟩ := take_ok (n := n) (S := S4 ++ [.lst [.int 30, .int (1 + i3), .int 999, .int 8]]) (m := 4) (Gp.one g4.pot _).pot (by decide) (by decide)
    rw [e4]
    have q5 := g5.last g4.pot
    obtain ⟨y, hy2, ey2⟩ := at_mem (xs := [D.int 30, .int (1 + i3), .int 999, .int 8]) a4 b4
    have G5 : Gp p S3 S5 := g4.trans ((Gp.one g4.pot _).trans g5)
    simp [idx_ref q5, ey2, seq_ref (G5.keep _ _ hrp hr)]
    obtain ⟨l, rfl, hl2⟩ : ∃ l : Int, y = .int l ∧ 1 ≤ l ∧ l ≤ 999 := by
      simp at hy2
      rcases hy2 with rfl | rfl | rfl | rfl
      · exact ⟨_, rfl, by decide, by decide⟩
      · exact ⟨_, rfl, by omega, by omega⟩
      · exact ⟨_, rfl, by decide, by decide⟩
      · exact ⟨_, rfl, by decide, by decide⟩
    refine ⟨l, ms.reverse, S5, by simp [knD], ⟨hl2.1, hl2.2, by simp [s2.length_eq, hl], fun r hr => ?_, desc_rev s3⟩, G2.trans G5⟩
    have := hy r (s2.mem_iff.mp (List.mem_reverse.mp hr))
    omega
end
end MP

namespace MP
open PySem L2
section
variable {n p : Nat} {x : D} {S S' S'' : Store}
theorem lc_drawF {Γ : Cal} {r : Env} {i m : Nat} {lo : Int} {cond elt : C} {P : Res D → Prop} (f : Nat → D) (hm : m ≤ lim) (hp : Pot p S)
    (hc : ∀ k, k < m → ∀ S', Gp p S S' → ∃ (b : Bool) (S'' : Store), Gp p S' S'' ∧ evE Γ cond (r.set i (some (.int (lo + (k : Nat))))) S' = .ok (.bl b) S'')
    (he : ∀ k, k < m → ∀ S', Gp p S S' → ∃ (S'' : Store), Gp p S' S'' ∧ evE Γ elt (r.set i (some (.int (lo + (k : Nat))))) S' = .ok (f k) S'')
    (k : ∀ (ks : List Nat) S' j, ks.Sublist (List.range m) → Gp p S S' → S'[j]? = some (.lst (ks.map f)) → j ≠ p → S.length ≤ j → P (.ok (.ref j) S')) : P (lcRun Γ (.one i) cond elt r S (.rng lo m)) := by
  obtain ⟨acc, S', h1, ys, h2, h3, h5⟩ := lcL_ind (src := .rng lo m) (body := lcT Γ (.one i) cond elt r) (fun k acc S' => ∃ ys : List Nat, acc = ys.map f ∧ ys.Sublist (List.range k) ∧ Gp p S S') (n := m) (by
      rintro k acc S' hk ⟨ys, rfl, h2, g⟩
      obtain ⟨b, S1, g1, e1⟩ := hc k hk S' g
      cases b with
      | false =>
        refine ⟨.int (lo + k), none, S1, by simp [hk], by simp [e1], ys, by simp, ?_, g.trans g1⟩
        rw [List.range_succ]
        exact h2.trans (List.sublist_append_left _ _)
      | true =>
        obtain ⟨S2, g2, e2⟩ := he k hk S1 (g.trans g1)
        refine ⟨.int (lo + k), some (f k), S2, by simp [hk], by simp [e1, e2], ys ++ [k], by simp, ?_, g.trans (g1.trans g2)⟩
        rw [List.range_succ]
        exact h2.append (List.Sublist.refl _)) (by intro acc S' _; simp) m 0 [] S (by omega) ⟨[], rfl, by simp, .refl hp⟩
  unfold lcRun
  rw [len_rng, if_pos hm, h1, bind_ok, newL_eq]
  have hpl := h5.pot.lt
  exact k ys _ _ h3 (h5.trans (.one h5.pot _)) (by rw [get_last, h2]) (by omega) h5.len
theorem b_addL {a b : Nat} {xs ys : List D} (h1 : S[a]? = some (.lst xs)) (h2 : S[b]? = some (.lst ys)) (h : xs.length + ys.length ≤ lim) : binD .Add (.ref a) (.ref b) S = .ok (.ref S.length) (S ++ [.lst (xs ++ ys)]) := by
  simp [binD, h1, h2, h]
structure HV where
  rs : List Int
  ks : List (Int × List Int)
  ps : List (Int × Int)
  h : Int
def HV.d (v : HV) : D := .tup [.tup (v.rs.map .int), .tup (v.ks.map knD), .tup (v.ps.map pairD), .int v.h]
structure HV.ok (v : HV) : Prop where
  r1 : 1 ≤ v.rs.length
  r5 : v.rs.length ≤ 5
  rs : ∀ r ∈ v.rs, 0 ≤ r ∧ r ≤ 3
  k1 : 1 ≤ v.ks.length
  k4 : v.ks.length ≤ 4
  ks : ∀ k ∈ v.ks, KOk k
  ps : ∀ q ∈ v.ps, 0 ≤ q.1 ∧ q.1 < q.2 ∧ q.2 < v.ks.length
  asc : ascI v.ps = true
  pl : v.ps.length ≤ 16
  h1 : 1 ≤ v.h
  h9 : v.h ≤ 9
theorem pairsOf_map (ps : List (Int × Int)) : pairsOf (ps.map pairD) = some ps := by
  induction ps with
  | nil => rfl
  | cons a ps ih =>
    obtain ⟨a, b⟩ := a
    simp [pairsOf, pairD] at ih ⊢
    exact ih
theorem HV.ok.is {v : HV} (h : v.ok) : isHouseD v.d = true := by
  have e1 : (v.ks.map knD).all isKindD = true := by
    rw [List.all_eq_true]
    intro y hy
    obtain ⟨k, hk, rfl⟩ := List.mem_map.mp hy
    exact (h.ks k hk).is
  have e2 : areApartD (((v.ks.map knD).length : Int) - 1) (.tup (v.ps.map pairD)) = true := by
    simp only [areApartD, pairsOf_map, h.asc, Bool.and_true]
    rw [List.all_eq_true]
    intro y hy
    obtain ⟨k, hk, rfl⟩ := List.mem_map.mp hy
    have := h.ps k hk
    simp [pairOkD, pairD]
    omega
  simp only [isHouseD, HV.d, all_within h.rs, e1, e2, List.length_map, h.r1, h.r5, h.k1, h.k4, decide_true, Bool.and_true]
  rw [List.length_map] at e2
  simp [withinD, h.h1, h.h9, e2]
theorem house_ok (hp : Pot p S) : ∃ (v : HV) (S' : Store), callF DEFS WW (n + 3) i__law_house [.ref p] S = .ok v.d S' ∧ v.ok ∧ Gp p S S' := by
  rw [cF_eq D__law_house rfl]
  simp only [c__law_house, k__law_house]
  simp
  obtain ⟨i1, S1, e1, a1, b1, g1, l1⟩ := take_ok (n := n + 1) hp (m := 5) (by decide) (by decide)
  simp [e1, src_rng1 (S := S1) (j := 1 + i1) (by unfold big; omega) (by unfold big; omega)]
  refine lc_drawR (P := fun z => ∃ v S', ends (thenS (Res.bind (Res.bind (Res.bind z _) _) _) _) = .ok (HV.d v) S' ∧ v.ok ∧ Gp p S S') D.int (fun i => 0 ≤ i ∧ i ≤ 3) (by unfold lim; omega) g1.pot (fun k hk S2 g2 => ?_) fun rs S2 j hl hy g2 hj hjp _ => ?_
  · obtain ⟨i2, S3, e2, a2, b2, g3, _⟩ := take_ok (n := n + 1) (m := 4) g2.pot (by decide) (by decide)
    exact ⟨i2, S3, ⟨a2, by omega⟩, g3, by simp [e2]⟩
  · simp only [bind_ok, kCons_eq, a_nil, consR_eq, pb_tuple, seq_ref hj, ofO_some, setR_eq, then_nx, List.set_cons_succ, List.set_cons_zero]
    have G2 : Gp p S S2 := g1.trans g2
    simp
    obtain ⟨i3, S3, e3, a3, b3, g3, l3⟩ := take_ok (n := n + 1) G2.pot (m := 4) (by decide) (by decide)
    simp [e3, src_rng1 (S := S3) (j := 1 + i3) (by unfold big; omega) (by unfold big; omega)]
    refine lc_drawR (P := fun z => ∃ v S', ends (thenS (Res.bind (Res.bind (Res.bind z _) _) _) _) = .ok (HV.d v) S' ∧ v.ok ∧ Gp p S S') knD KOk (by unfold lim; omega) g3.pot (fun k hk S4 g4 => ?_) fun ks S4 j4 hl4 hy4 g4 hj4 hjp4 _ => ?_
    · obtain ⟨k, S5, e5, ok5, g5⟩ := kind_of_ok (n := n) g4.pot
      exact ⟨k, S5, ok5, g5, by simp [e5]⟩
    · simp only [bind_ok, kCons_eq, a_nil, consR_eq, pb_tuple, seq_ref hj4, ofO_some, setR_eq, then_nx, List.set_cons_succ, List.set_cons_zero]
      have G4 : Gp p S S4 := G2.trans (g3.trans g4)
      have hk1 : 1 ≤ ks.length := by omega
      have hk4 : ks.length ≤ 4 := by omega
      simp
      have s5 : srcOf .rng [.int (ks.length : Int)] (S4 ++ [.lst []]) = some (.rng 0 ks.length) := by
        rw [src_rng1 (by unfold big; omega) (by unfold big; omega)]; simp
      rw [s5]
      simp
      obtain ⟨Q, hQ⟩ : ∃ Q : Nat → Env → Store → Prop, Q = fun i r S' => Gp p S S' ∧ ∃ (j : Nat) (ps : List (Int × Int)) (o1 : Option D), r = [some (.ref p), some (.tup (rs.map D.int)), none, some (.tup (ks.map knD)), none, some (.ref j), o1] ∧ j ≠ p ∧ S'[j]? = some (.lst (ps.map pairD)) ∧ ps.Nodup ∧ ps.length ≤ i * 4 ∧ ∀ q ∈ ps, 0 ≤ q.1 ∧ q.1 < q.2 ∧ q.2 < (i : Int) := ⟨_, rfl⟩
      refine for_rng (P := fun z => ∃ v S', ends (thenS z _) = .ok (HV.d v) S' ∧ v.ok ∧ Gp p S S') Q (fun _ _ => False) ?_ ?_ ?_ (fun _ _ h => h.elim)
      · rw [hQ]
        exact ⟨G4.trans (.one G4.pot _), S4.length, [], none, rfl, by have := G4.pot.lt; omega, get_last, List.nodup_nil, by simp, by simp⟩
      · intro i r S5 hi hq
        rw [hQ] at hq
        obtain ⟨g5, j, ps, o1, hr, hjp, hj5, nd, hlen, q⟩ := hq
        subst hr
        simp [src_rng1 (S := S5) (j := (i : Int)) (by unfold big; omega) (by unfold big; omega)]
        refine lc_drawF (P := fun z => StepP _ _ (thenS (Res.bind (Res.bind z _) _) _)) (fun k => pairD ((k : Int), (i : Int))) (by unfold lim; omega) g5.pot (fun k hk S6 g6 => ?_) (fun k hk S6 g6 => ⟨S6, .refl g6.pot, by simp [pairD]⟩) fun us S6 j6 sub g6 hj6 hjp6 hle => ?_
        · obtain ⟨i2, S7, e2, a2, b2, g7, _⟩ := take_ok (n := n + 1) (m := 3) g6.pot (by decide) (by decide)
          exact ⟨decide (i2 = 0), S7, g7, by simp [e2]⟩
        · have hus : us.length ≤ i := by simpa using sub.length_le
          simp only [bind_ok, b_addL (g6.keep _ _ hjp hj5) hj6 (by simp [lim]; omega), setR_eq, then_nx, List.set_cons_succ, List.set_cons_zero, s_skip, step_nx]
          rw [hQ]
          refine ⟨g5.trans (g6.trans (.one g6.pot _)), S6.length, ps ++ us.map (fun k : Nat => ((k : Int), (i : Int))), _, rfl, by have := g6.pot.lt; omega, ?_, ?_, ?_, ?_⟩
          · rw [get_last]; simp
          · rw [List.nodup_append]
            refine ⟨nd, ?_, ?_⟩
            · have h0 : us.Nodup := sub.nodup (List.nodup_range)
              rw [List.Nodup, List.pairwise_map]
              exact h0.imp fun {a b} h e => h (by simp at e; omega)
            · intro a ha b hb e
              obtain ⟨k, _, rfl⟩ := List.mem_map.mp hb
              have := q a ha
              rw [e] at this
              simp at this
          · simp; omega
          · intro z hz
            rcases List.mem_append.mp hz with hz | hz
            · have := q z hz
              omega
            · obtain ⟨k, hk, rfl⟩ := List.mem_map.mp hz
              have := List.mem_range.mp (sub.subset hk)
              simp
              omega
      · intro r S5 hq
        rw [hQ] at hq
        obtain ⟨g5, j, ps, o1, rfl, hjp, hj5, nd, hlen, q⟩ := hq
        simp
        obtain ⟨ms, s1, s2, s3⟩ := sort_pairs (S := S5) ps
        rw [sorted_seq (seq_ref hj5) s1]
        simp [seq_ref get_last]
        have G6 : Gp p S (S5 ++ [.lst (ms.map pairD)]) := g5.trans (.one g5.pot _)
        generalize S5 ++ [.lst (ms.map pairD)] = S6 at G6 ⊢
        obtain ⟨i7, S7, e7, a7, b7, g7, _⟩ := take_ok (n := n + 1) (m := 9) G6.pot (by decide) (by decide)
        simp [e7]
        obtain ⟨i8, S8, e8, a8, b8, g8, _⟩ := take_ok (n := n + 1) (S := S7 ++ [.lst [.int 1, .int 2, .int 9, .int (1 + i7)]]) (m := 4) (Gp.one g7.pot _).pot (by decide) (by decide)
        rw [e8]
        have q8 := g8.last g7.pot
        obtain ⟨y, hy8, ey8⟩ := at_mem (xs := [D.int 1, .int 2, .int 9, .int (1 + i7)]) a8 b8
        simp [idx_ref q8, ey8]
        obtain ⟨hh, rfl, hh2⟩ : ∃ l : Int, y = .int l ∧ 1 ≤ l ∧ l ≤ 9 := by
          simp at hy8
          rcases hy8 with rfl | rfl | rfl | rfl
          · exact ⟨_, rfl, by decide, by decide⟩
          · exact ⟨_, rfl, by decide, by decide⟩
          · exact ⟨_, rfl, by decide, by decide⟩
          · exact ⟨_, rfl, by omega, by omega⟩
        refine ⟨⟨rs, ks, ms, hh⟩, S8, by simp [HV.d], ⟨by show 1 ≤ rs.length; omega, by show rs.length ≤ 5; omega, hy, hk1, hk4, hy4, fun z hz => q z (s2.mem_iff.mp hz), sort_asc s3 (s2.nodup_iff.mpr nd), by show ms.length ≤ 16; rw [s2.length_eq]; omega, hh2.1, hh2.2⟩, G6.trans (g7.trans ((Gp.one g7.pot _).trans g8))⟩
end
end MP

namespace MP
open PySem L2
/-- a thing that may be shown: no deeper than f, not the pot -/
def Th (E : List Nat) (B : Nat) (S : Store) : Nat → D → Prop
  | _, .non => True
  | _, .bl _ => True
  | _, .int i => i.natAbs ≤ B
  | _, .str x => (reprText x).length ≤ 1900
  | 0, _ => False
  | f + 1, .tup xs => xs.length ≤ lim ∧ ∀ x ∈ xs, Th E B S f x
  | f + 1, .ref n => n ∉ E ∧ ((∃ xs, S[n]? = some (.lst xs) ∧ ∀ x ∈ xs, Th E B S f x) ∨ ∃ kvs : List (Key × D), S[n]? = some (.dic kvs) ∧ ∀ kv ∈ kvs, (match kv.1 with | .inl i => i.natAbs ≤ B | .inr _ => False) ∧ Th E B S f kv.2)
  | _ + 1, _ => False
def nD (S : Store) : Nat → D → Nat
  | f + 1, .tup xs => 1 + (xs.map (nD S f)).sum
  | f + 1, .ref n => match S[n]? with
    | some (.lst xs) => 1 + (xs.map (nD S f)).sum
    | some (.dic kvs) => 1 + (kvs.map fun kv => 1 + nD S f kv.2).sum
    | _ => 1
  | _, _ => 1
section
variable {n p B f : Nat} {E : List Nat} {x : D} {S S' S'' : Store}
theorem sum_congr {α : Type} {l : List α} {g h : α → Nat} (e : ∀ x ∈ l, g x = h x) : (l.map g).sum = (l.map h).sum := by rw [List.map_congr_left e]
theorem mapM_congr {α β : Type} {l : List α} {g h : α → Option β} (e : ∀ x ∈ l, g x = h x) : l.mapM g = l.mapM h := by
  induction l with
  | nil => rfl
  | cons a l ih =>
    simp only [List.mapM_cons]
    rw [e a List.mem_cons_self, ih fun x hx => e x (List.mem_cons_of_mem _ hx)]
/-- all but these stay -/
def KeepE (E : List Nat) (S S' : Store) : Prop := ∀ i o, i ∉ E → S[i]? = some o → S'[i]? = some o
theorem KeepE.trans (h : KeepE E S S') (h' : KeepE E S' S'') : KeepE E S S'' := fun i o hi e => h' i o hi (h i o hi e)
theorem Gp.ke (g : Gp p S S') (hp : p ∈ E) : KeepE E S S' := fun i o hi e => g.keep i o (fun z => hi (z ▸ hp)) e
theorem Grow.ke (g : Grow S S') : KeepE E S S' := fun i o _ e => g.get e
theorem ke_set {j : Nat} {o : O} (hj : j ∈ E) : KeepE E S (S.set j o) := fun i o' hi e => by
  have hn : ¬ j = i := fun z => hi (z ▸ hj)
  rw [List.getElem?_set, if_neg hn]
  exact e
/-- deeper may be asked -/
theorem Th.up (h : Th E B S f x) : Th E B S (f + 1) x ∧ nD S (f + 1) x = nD S f x ∧ toPy S (f + 1) x = toPy S f x := by
  induction f generalizing x with
  | zero => cases x <;> first | exact ⟨h, rfl, rfl⟩ | exact h.elim
  | succ f ih =>
    cases x with
    | tup xs =>
      obtain ⟨hl, hx⟩ := h
      refine ⟨⟨hl, fun y hy => (ih (hx y hy)).1⟩, ?_, ?_⟩
      · show 1 + _ = 1 + _
        rw [sum_congr fun y hy => (ih (hx y hy)).2.1]
      · rw [py_tup, py_tup, mapM_congr fun y hy => (ih (hx y hy)).2.2]
    | ref i =>
      obtain ⟨hi, h⟩ := h
      rcases h with ⟨xs, e, hx⟩ | ⟨kvs, e, hx⟩
      · refine ⟨⟨hi, .inl ⟨xs, e, fun y hy => (ih (hx y hy)).1⟩⟩, ?_, ?_⟩
        · simp only [nD, e]
          rw [sum_congr fun y hy => (ih (hx y hy)).2.1]
        · rw [py_lst e, py_lst e, mapM_congr fun y hy => (ih (hx y hy)).2.2]
      · refine ⟨⟨hi, .inr ⟨kvs, e, fun y hy => ⟨(hx y hy).1, (ih (hx y hy).2).1⟩⟩⟩, ?_, ?_⟩
        · simp only [nD, e]
          rw [sum_congr fun y hy => by rw [(ih (hx y hy).2).2.1]]
        · rw [py_dic e, py_dic e, mapM_congr fun y hy => by rw [(ih (hx y hy).2).2.2]]
    | non => exact ⟨h, rfl, rfl⟩
    | bl b => exact ⟨h, rfl, rfl⟩
    | int b => exact ⟨h, rfl, rfl⟩
    | str b => exact ⟨h, rfl, rfl⟩
    | _ => exact h.elim
theorem Th.ups (k : Nat) (h : Th E B S f x) : Th E B S (f + k) x ∧ nD S (f + k) x = nD S f x ∧ toPy S (f + k) x = toPy S f x := by
  induction k with
  | zero => exact ⟨h, rfl, rfl⟩
  | succ k ih =>
    obtain ⟨a, b, c⟩ := ih.1.up
    exact ⟨a, b.trans ih.2.1, c.trans ih.2.2⟩
theorem Th.gp (g : KeepE E S S') (h : Th E B S f x) : Th E B S' f x ∧ nD S' f x = nD S f x ∧ toPy S' f x = toPy S f x := by
  induction f generalizing x with
  | zero => cases x <;> first | exact ⟨h, rfl, rfl⟩ | exact h.elim
  | succ f ih =>
    cases x with
    | tup xs =>
      obtain ⟨hl, hx⟩ := h
      refine ⟨⟨hl, fun y hy => (ih (hx y hy)).1⟩, ?_, ?_⟩
      · show 1 + _ = 1 + _
        rw [sum_congr fun y hy => (ih (hx y hy)).2.1]
      · rw [py_tup, py_tup, mapM_congr fun y hy => (ih (hx y hy)).2.2]
    | ref i =>
      obtain ⟨hi, h⟩ := h
      rcases h with ⟨xs, e, hx⟩ | ⟨kvs, e, hx⟩
      · have e' := g _ _ hi e
        refine ⟨⟨hi, .inl ⟨xs, e', fun y hy => (ih (hx y hy)).1⟩⟩, ?_, ?_⟩
        · simp only [nD, e, e']
          rw [sum_congr fun y hy => (ih (hx y hy)).2.1]
        · rw [py_lst e, py_lst e', mapM_congr fun y hy => (ih (hx y hy)).2.2]
      · have e' := g _ _ hi e
        refine ⟨⟨hi, .inr ⟨kvs, e', fun y hy => ⟨(hx y hy).1, (ih (hx y hy).2).1⟩⟩⟩, ?_, ?_⟩
        · simp only [nD, e, e']
          rw [sum_congr fun y hy => by rw [(ih (hx y hy).2).2.1]]
        · rw [py_dic e, py_dic e', mapM_congr fun y hy => by rw [(ih (hx y hy).2).2.2]]
    | non => exact ⟨h, rfl, rfl⟩
    | bl b => exact ⟨h, rfl, rfl⟩
    | int b => exact ⟨h, rfl, rfl⟩
    | str b => exact ⟨h, rfl, rfl⟩
    | _ => exact h.elim
theorem Th.dc (h : Th E B S f x) : Dc S x := by
  induction f generalizing x with
  | zero => cases x <;> first | exact h.elim | constructor
  | succ f ih =>
    cases x with
    | tup xs => exact .tup h.1 fun y hy => ih (h.2 y hy)
    | ref i =>
      obtain ⟨hi, h⟩ := h
      rcases h with ⟨xs, e, hx⟩ | ⟨kvs, e, hx⟩
      · exact .ref ⟨"list", by simp [tyD, e]⟩
      · exact .ref ⟨"dict", by simp [tyD, e]⟩
    | non => exact .non
    | bl b => exact .bl b
    | int b => exact .int b
    | str b => exact .str b
    | _ => exact h.elim
/-! what is shown -/
theorem text_len (ts : List Str) : ∀ (k : Nat) (acc : Str), (textFrom k acc ts).length ≤ acc.length + (ts.map fun t => t.length + 2).sum := by
  induction ts with
  | nil => intro k acc; exact Nat.le_refl _
  | cons t ts ih =>
    intro k acc
    show (textFrom (k + 1) _ ts).length ≤ _
    refine Nat.le_trans (ih _ _) ?_
    rw [strLen_append, strLen_append]
    have : (Str.ofString (if k > 0 then ", " else "")).length ≤ 2 := by
      by_cases hk : k > 0
      · rw [if_pos hk]; decide
      · rw [if_neg hk]; decide
    simp only [List.map_cons, List.sum_cons]
    omega
theorem join_len (ts : List Str) : (Str.join ", " ts).length ≤ (ts.map fun t => t.length + 2).sum := by
  cases ts with
  | nil => decide
  | cons t ts =>
    have := join_length_add (t :: ts) (by simp)
    have e : piled (t :: ts) = ((t :: ts).map fun t => t.length + 2).sum := by
      rfl
    omega
theorem list_len (ts : List Str) : (listText ts).length ≤ 2 + (ts.map fun t => t.length + 2).sum := by
  unfold listText
  rw [strLen_append]
  have := text_len ts 0 "["
  have e1 : (("[" : String) : Str).length = 1 := rfl
  have e2 : (("]" : String) : Str).length = 1 := rfl
  omega
theorem tuple_len (ts : List Str) : (tupleText ts).length ≤ 3 + (ts.map fun t => t.length + 2).sum := by
  unfold tupleText
  rw [strLen_append, strLen_append]
  have := join_len ts
  have e1 : (("(" : String) : Str).length = 1 := rfl
  have : (Str.ofString (if ts.length == 1 then ",)" else ")")).length ≤ 2 := by
    split <;> decide
  omega
theorem dict_len (ts : List Str) : (dictText ts).length ≤ 2 + (ts.map fun t => t.length + 2).sum := by
  unfold dictText
  rw [strLen_append, strLen_append]
  have := join_len ts
  have e1 : (("{" : String) : Str).length = 1 := rfl
  have e2 : (("}" : String) : Str).length = 1 := rfl
  omega
/-- what an int may be -/
def BB (B : Nat) : Prop := B < 2 ^ 1800
theorem log_lt {i : Int} (hB : BB B) (h : i.natAbs ≤ B) : i.natAbs.log2 < 1900 := by
  by_cases h0 : i.natAbs = 0
  · rw [h0]; decide
  · rw [Nat.log2_lt h0]
    have : (2 : Nat) ^ 1800 ≤ 2 ^ 1900 := Nat.pow_le_pow_right (by decide) (by decide)
    exact Nat.lt_of_le_of_lt h (Nat.lt_of_lt_of_le hB this)
theorem int_len {i : Int} (hB : BB B) (h : i.natAbs ≤ B) : (Str.ofString (toString i)).length ≤ 1921 := PyProof.Rows.int_text_len_1921 (by have := log_lt hB h; omega)
theorem shownAll_eq (qs : List PyData) : PyData.shownAll qs = qs.map PyData.shown := by
  induction qs with
  | nil => rfl
  | cons q qs ih => simp [PyData.shownAll, ih]
theorem all_py {xs : List D} (h : ∀ y ∈ xs, ∃ q : PyData, toPy S f y = some q ∧ q.showable = true ∧ q.shown.length + 50 ≤ 2000 * nD S f y) :
    ∃ qs, xs.mapM (toPy S f) = some qs ∧ PyData.showableAll qs = true ∧ ((PyData.shownAll qs).map fun t => t.length + 2).sum ≤ 2000 * (xs.map (nD S f)).sum := by
  induction xs with
  | nil => exact ⟨[], rfl, rfl, by simp [PyData.shownAll]⟩
  | cons a xs ih =>
    obtain ⟨q, h1, h2, h3⟩ := h a List.mem_cons_self
    obtain ⟨qs, i1, i2, i3⟩ := ih fun y hy => h y (List.mem_cons_of_mem _ hy)
    refine ⟨q :: qs, by simp [List.mapM_cons, h1, i1], by simp [PyData.showableAll, h2, i2], ?_⟩
    simp only [PyData.shownAll, List.map_cons, List.sum_cons]
    omega
theorem all_pyK {kvs : List (Key × D)} (hB : BB B) (hk : ∀ kv ∈ kvs, (match kv.1 with | .inl i => i.natAbs ≤ B | .inr _ => False)) (h : ∀ kv ∈ kvs, ∃ q : PyData, toPy S f kv.2 = some q ∧ q.showable = true ∧ q.shown.length + 50 ≤ 2000 * nD S f kv.2) :
    ∃ qs, kvs.mapM (fun kv => (toPy S f kv.2).map fun v => (kP kv.1, v)) = some qs ∧ PyData.showableKv qs = true ∧ ((PyData.shownKv qs).map fun t => t.length + 2).sum ≤ 2000 * (kvs.map fun kv => 1 + nD S f kv.2).sum := by
  induction kvs with
  | nil => exact ⟨[], rfl, rfl, by simp [PyData.shownKv]⟩
  | cons a kvs ih =>
    obtain ⟨q, h1, h2, h3⟩ := h a List.mem_cons_self
    obtain ⟨qs, i1, i2, i3⟩ := ih (fun y hy => hk y (List.mem_cons_of_mem _ hy)) fun y hy => h y (List.mem_cons_of_mem _ hy)
    obtain ⟨k, v⟩ := a
    have hk0 := hk (k, v) List.mem_cons_self
    cases k with
    | inr s => exact hk0.elim
    | inl i =>
      have hk0 : i.natAbs ≤ B := hk0
      have hl := int_len hB hk0
      have hg := log_lt hB hk0
      have e : (PyData.shown (kP (.inl i))).length ≤ 1921 := hl
      refine ⟨(kP (.inl i), q) :: qs, by simp [List.mapM_cons, h1, i1], ?_, ?_⟩
      · simp [PyData.showableKv, h2, i2, kP, PyData.showable]
        omega
      · simp only [PyData.shownKv, List.map_cons, List.sum_cons]
        rw [strLen_append, strLen_append]
        have e2 : ((": " : String) : Str).length = 2 := rfl
        have h3' : q.shown.length + 50 ≤ 2000 * nD S f v := h3
        show _ ≤ 2000 * ((1 + nD S f v) + _)
        omega
theorem Th.py (hB : BB B) (h : Th E B S f x) : ∃ q : PyData, toPy S f x = some q ∧ q.showable = true ∧ q.shown.length + 50 ≤ 2000 * nD S f x := by
  have flat : ∀ f, nD S f .non = 1 ∧ (∀ b, nD S f (.bl b) = 1) ∧ (∀ b, nD S f (.int b) = 1) ∧ ∀ b, nD S f (.str b) = 1 := by
    intro f
    cases f <;> exact ⟨rfl, fun _ => rfl, fun _ => rfl, fun _ => rfl⟩
  induction f generalizing x with
  | zero =>
    cases x with
    | non => exact ⟨_, rfl, rfl, by rw [(flat 0).1]; decide⟩
    | bl b => exact ⟨_, rfl, rfl, by rw [(flat 0).2.1]; cases b <;> decide⟩
    | int i =>
      have h : i.natAbs ≤ B := h
      have hg := log_lt hB h
      refine ⟨_, rfl, by simp [PyData.showable]; omega, ?_⟩
      rw [(flat 0).2.2.1]
      have := int_len hB h
      show (Str.ofString (toString i)).length + 50 ≤ _
      omega
    | str b =>
      have h : (reprText b).length ≤ 1900 := h
      refine ⟨_, rfl, rfl, ?_⟩
      rw [(flat 0).2.2.2]
      show (reprText b).length + 50 ≤ _
      omega
    | _ => exact h.elim
  | succ f ih =>
    cases x with
    | non => exact ⟨_, rfl, rfl, by rw [(flat _).1]; decide⟩
    | bl b => exact ⟨_, rfl, rfl, by rw [(flat _).2.1]; cases b <;> decide⟩
    | int i =>
      have h : i.natAbs ≤ B := h
      have hg := log_lt hB h
      refine ⟨_, rfl, by simp [PyData.showable]; omega, ?_⟩
      rw [(flat _).2.2.1]
      have := int_len hB h
      show (Str.ofString (toString i)).length + 50 ≤ _
      omega
    | str b =>
      have h : (reprText b).length ≤ 1900 := h
      refine ⟨_, rfl, rfl, ?_⟩
      rw [(flat _).2.2.2]
      show (reprText b).length + 50 ≤ _
      omega
    | tup xs =>
      obtain ⟨qs, h1, h2, h3⟩ := all_py fun y hy => ih (h.2 y hy)
      refine ⟨.tuple qs, by rw [py_tup, h1]; rfl, h2, ?_⟩
      have := tuple_len (PyData.shownAll qs)
      show (tupleText (PyData.shownAll qs)).length + 50 ≤ 2000 * (1 + _)
      omega
    | ref i =>
      obtain ⟨hi, h⟩ := h
      rcases h with ⟨xs, e, hx⟩ | ⟨kvs, e, hx⟩
      · obtain ⟨qs, h1, h2, h3⟩ := all_py fun y hy => ih (hx y hy)
        refine ⟨.list qs, by rw [py_lst e, h1]; rfl, h2, ?_⟩
        have := list_len (PyData.shownAll qs)
        simp only [nD, e]
        show (listText (PyData.shownAll qs)).length + 50 ≤ 2000 * (1 + _)
        omega
      · obtain ⟨qs, h1, h2, h3⟩ := all_pyK hB (fun kv hkv => (hx kv hkv).1) fun kv hkv => ih (hx kv hkv).2
        refine ⟨.dict qs, by rw [py_dic e, h1]; rfl, h2, ?_⟩
        have := dict_len (PyData.shownKv qs)
        simp only [nD, e]
        show (dictText (PyData.shownKv qs)).length + 50 ≤ 2000 * (1 + _)
        omega
    | _ => exact h.elim
/-- repr of a thing -/
theorem Th.repr (hB : BB B) (h : Th E B S f x) (hf : f ≤ 60) (hn : nD S f x ≤ 8000) : ∃ t : Str, bltD .repr [x] S = .ok (.str t) S ∧ ∀ S', KeepE E S S' → bltD .repr [x] S' = .ok (.str t) S' := by
  obtain ⟨q, h1, h2, h3⟩ := h.py hB
  have hd : f + (60 - f) = dep := by show f + (60 - f) = 60; omega
  have h4 : toPy S dep x = some q := by rw [← hd, (h.ups (60 - f)).2.2]; exact h1
  have hl : q.shown.length ≤ lim := by unfold lim; omega
  have run : ∀ S', toPy S' dep x = some q → bltD .repr [x] S' = .ok (.str q.shown) S' := fun S' e => by
    simp only [bltD, e, h2, hl, decide_true, Bool.and_self, if_true]
  refine ⟨q.shown, run S h4, fun S' g => run S' ?_⟩
  obtain ⟨a, _, c⟩ := h.gp g
  rw [← hd, (a.ups (60 - f)).2.2, c]
  exact h1
end
end MP

namespace MP
open PySem L2
section
variable {n p B f : Nat} {E : List Nat} {x : D} {S S' S'' : Store}
theorem get_at {S T : Store} {i : Nat} {o : O} (h : T[i]? = some o) : (S ++ T)[S.length + i]? = some o := by
  rw [List.getElem?_append_right (by omega)]
  simpa using h
theorem pow30 : binD .Pow (.int 10) (.int 30) S = .ok (.int 1000000000000000000000000000000) S := rfl
theorem th_int {i : Int} (h : i.natAbs ≤ B) : Th E B S f (.int i) := by cases f <;> exact h
theorem nd_int (i : Int) : nD S f (.int i) = 1 := by cases f <;> rfl
theorem th_lst {i : Nat} {xs : List D} (h : S[i]? = some (.lst xs)) (hi : i ∉ E) (hx : ∀ y ∈ xs, Th E B S f y) : Th E B S (f + 1) (.ref i) := ⟨hi, .inl ⟨xs, h, hx⟩⟩
theorem nd_lst {i : Nat} {xs : List D} (h : S[i]? = some (.lst xs)) : nD S (f + 1) (.ref i) = 1 + (xs.map (nD S f)).sum := by simp only [nD, h]
theorem nd_dic {i : Nat} {kvs : List (Key × D)} (h : S[i]? = some (.dic kvs)) : nD S (f + 1) (.ref i) = 1 + (kvs.map fun kv => 1 + nD S f kv.2).sum := by simp only [nD, h]
theorem nd_tup {xs : List D} : nD S (f + 1) (.tup xs) = 1 + (xs.map (nD S f)).sum := rfl
theorem odd_ok (hE : ∀ e ∈ E, e < S.length) (hB : 10 ^ 30 ≤ B) (hp : Pot p S) : ∃ (d : D) (S' : Store), callF DEFS WW (n + 2) i__law_odd [.ref p] S = .ok d S' ∧ Th E B S' 3 d ∧ nD S' 3 d ≤ 3 ∧ Gp p S S' := by
  rw [cF_eq D__law_odd rfl]
  simp only [c__law_odd, k__law_odd]
  simp [pow30]
  generalize hT : S ++ _ = S1
  have hl := hp.lt
  have G1 : Gp p S S1 := Gp.grow hp ⟨_, hT.symm⟩
  have t0 : S1[S.length + 0]? = some (.lst []) := by rw [← hT]; exact get_at rfl
  have t1 : S1[S.length + 1]? = some (.dic []) := by rw [← hT]; exact get_at rfl
  have t2 : S1[S.length + 2]? = some (.lst [.tup []]) := by rw [← hT]; exact get_at rfl
  have t3 : S1[S.length + 3]? = some (.lst [.int 0]) := by rw [← hT]; exact get_at rfl
  have t4 : S1[S.length + 4]? = some (.dic [(.inl 0, .int 1)]) := by rw [← hT]; exact get_at rfl
  have t5 : S1[S.length + 5]? = some (O.lst
          [D.non, D.bl true, D.bl false, D.int (-1), D.int 1000000000000000000000000000000, D.str (Str.ofString ""),
            D.str (Str.ofString "a"), D.str (Str.ofString "1"), D.tup [], D.ref (List.length S),
            D.ref (List.length S + 1), D.ref (List.length S + 2), D.tup [D.tup []], D.tup [D.int 0],
            D.ref (List.length S + 3), D.ref (List.length S + 4), D.tup [D.bl true, D.bl true]]) := by rw [← hT]; exact get_at rfl
  clear hT
  simp [len_ref t5]
  obtain ⟨i, S2, e1, a1, b1, g1, _⟩ := take_ok (n := n) (m := 17) G1.pot (by decide) (by decide)
  rw [e1]
  obtain ⟨y, hy, ey⟩ := at_mem (xs := [D.non, D.bl true, D.bl false, D.int (-1), D.int 1000000000000000000000000000000, D.str (Str.ofString ""),
            D.str (Str.ofString "a"), D.str (Str.ofString "1"), D.tup [], D.ref (List.length S),
            D.ref (List.length S + 1), D.ref (List.length S + 2), D.tup [D.tup []], D.tup [D.int 0],
            D.ref (List.length S + 3), D.ref (List.length S + 4), D.tup [D.bl true, D.bl true]]) a1 b1
  simp [idx_ref (g1.keep _ _ (by omega) t5), ey]
  have u0 := g1.keep _ _ (by omega) t0
  have u0' : S2[S.length]? = some (.lst []) := u0
  have u1 := g1.keep _ _ (by omega) t1
  have u2 := g1.keep _ _ (by omega) t2
  have u3 := g1.keep _ _ (by omega) t3
  have u4 := g1.keep _ _ (by omega) t4
  refine ⟨y, S2, ⟨rfl, rfl⟩, ?_⟩
  have fr : ∀ k, S.length + k ∉ E := fun k z => by have := hE _ z; omega
  have key : Th E B S2 3 y ∧ nD S2 3 y ≤ 3 := by
    simp only [List.mem_cons, List.not_mem_nil, or_false] at hy
    rcases hy with rfl | rfl | rfl | rfl | rfl | rfl | rfl | rfl | rfl | rfl | rfl | rfl | rfl | rfl | rfl | rfl | rfl
    · exact ⟨trivial, by simp [nD]⟩
    · exact ⟨trivial, by simp [nD]⟩
    · exact ⟨trivial, by simp [nD]⟩
    · exact ⟨th_int (by simp; omega), by simp [nD]⟩
    · exact ⟨th_int (by simpa using hB), by simp [nD]⟩
    · exact ⟨(show (reprText _).length ≤ 1900 by decide +kernel), by simp [nD]⟩
    · exact ⟨(show (reprText _).length ≤ 1900 by decide +kernel), by simp [nD]⟩
    · exact ⟨(show (reprText _).length ≤ 1900 by decide +kernel), by simp [nD]⟩
    · exact ⟨⟨by decide, by simp⟩, by simp [nD]⟩
    · exact ⟨th_lst u0 (fr 0) (by simp), by simp [nD, u0']⟩
    · exact ⟨⟨fr 1, .inr ⟨_, u1, by simp⟩⟩, by simp [nD, u1]⟩
    · exact ⟨th_lst u2 (fr 2) (by simp [Th]), by simp [nD, u2]⟩
    · exact ⟨⟨by decide, by simp [Th]⟩, by simp [nD]⟩
    · exact ⟨⟨by decide, by simp [Th]⟩, by simp [nD]⟩
    · exact ⟨th_lst u3 (fr 3) (by simp [Th]), by simp [nD, u3]⟩
    · exact ⟨⟨fr 4, .inr ⟨_, u4, by simp [Th]; omega⟩⟩, by simp [nD, u4]⟩
    · exact ⟨⟨by decide, by simp [Th]⟩, by simp [nD]⟩
  exact ⟨key.1, key.2, G1.trans g1⟩
end
end MP

namespace MP
open PySem L2
section
variable {n p B B' f : Nat} {E : List Nat} {x : D} {S S' S'' : Store}
theorem Th.mono (hb : B ≤ B') (h : Th E B S f x) : Th E B' S f x := by
  induction f generalizing x with
  | zero =>
    cases x with
    | int i => exact Nat.le_trans (show i.natAbs ≤ B from h) hb
    | non => exact h
    | bl b => exact h
    | str b => exact h
    | _ => exact h.elim
  | succ f ih =>
    cases x with
    | int i => exact Nat.le_trans (show i.natAbs ≤ B from h) hb
    | non => exact h
    | bl b => exact h
    | str b => exact h
    | tup xs => exact ⟨h.1, fun y hy => ih (h.2 y hy)⟩
    | ref i =>
      obtain ⟨hi, h⟩ := h
      rcases h with ⟨xs, e, hx⟩ | ⟨kvs, e, hx⟩
      · exact ⟨hi, .inl ⟨xs, e, fun y hy => ih (hx y hy)⟩⟩
      · refine ⟨hi, .inr ⟨kvs, e, fun y hy => ⟨?_, ih (hx y hy).2⟩⟩⟩
        have := (hx y hy).1
        obtain ⟨k, v⟩ := y
        cases k with
        | inl i => exact Nat.le_trans this hb
        | inr s => exact this
    | _ => exact h.elim
theorem nd_pos : 1 ≤ nD S f x := by
  unfold nD
  split <;> first | omega | skip
  split <;> omega
theorem len_sum {g : D → Nat} (hg : ∀ x, 1 ≤ g x) (xs : List D) : xs.length ≤ (xs.map g).sum := by
  induction xs with
  | nil => simp
  | cons a xs ih =>
    have := hg a
    simp
    omega
theorem sum_sub {g : D → Nat} {l l' : List D} (h : l.Sublist l') : (l.map g).sum ≤ (l'.map g).sum := by
  induction h with
  | slnil => exact Nat.le_refl _
  | cons a _ ih => simp; omega
  | cons_cons a _ ih => simp; omega
theorem sum_at {g : D → Nat} {xs : List D} {k : Nat} (hk : k < xs.length) : (xs.map g).sum = ((xs.take k).map g).sum + (g xs[k] + ((xs.drop (k + 1)).map g).sum) := by
  induction xs generalizing k with
  | nil => simp at hk
  | cons a xs ih =>
    cases k with
    | zero => simp
    | succ k =>
      have := ih (k := k) (by simpa using hk)
      simp only [List.take_succ_cons, List.map_cons, List.sum_cons, List.drop_succ_cons, List.getElem_cons_succ]
      omega
theorem cut_sub (xs : List D) (l h : Option Int) : (cut xs l h).Sublist xs := (List.take_sublist _ _).trans (List.drop_sublist _ _)
theorem cut_take (xs : List D) (k : Nat) : cut xs none (some (k : Int)) = xs.take k := by
  unfold cut
  rw [HT.sIx_none, HT.sIx_nat, List.drop_zero, Nat.sub_zero]
  by_cases h : k ≤ xs.length
  · rw [Nat.min_eq_left h]
  · rw [Nat.min_eq_right (by omega), List.take_of_length_le (Nat.le_refl _), List.take_of_length_le (by omega)]
theorem cut_drop (xs : List D) (k : Nat) : cut xs (some (k : Int)) none = xs.drop k := by
  unfold cut
  rw [HT.sIx_none, HT.sIx_nat]
  by_cases h : k ≤ xs.length
  · rw [Nat.min_eq_left h, List.take_of_length_le (by simp)]
  · rw [Nat.min_eq_right (by omega), List.drop_of_length_le (Nat.le_refl _), List.drop_of_length_le (by omega)]
    simp
theorem eq_unit (xs : List D) : cmpD .Eq (.tup xs) (.tup []) S = .ok (.bl xs.isEmpty) S := by
  have e : eqD S (.tup xs) (.tup []) = some xs.isEmpty := by
    unfold eqD
    cases xs <;> simp [isFlat]
  simp only [cmpD, e, ofO_some]
/-- a tuple of things -/
theorem th_tup {xs : List D} (hl : xs.length ≤ lim) (h : ∀ y ∈ xs, Th E B S f y) : Th E B S (f + 1) (.tup xs) := ⟨hl, h⟩
theorem pow4 : binD .Pow (.int 10) (.int 4) S = .ok (.int 10000) S := rfl
/-- a thing, later, deeper -/
theorem Th.lift {k : Nat} (g : KeepE E S S') (hb : B ≤ B') (h : Th E B S f x) : Th E B' S' (f + k) x ∧ nD S' (f + k) x = nD S f x := by
  obtain ⟨a, b, _⟩ := h.gp g
  obtain ⟨c, d, _⟩ := a.ups k
  exact ⟨c.mono hb, d.trans b⟩
theorem lift_sum {k : Nat} {xs : List D} (g : KeepE E S S') (h : ∀ y ∈ xs, Th E B S f y) : (xs.map (nD S' (f + k))).sum = (xs.map (nD S f)).sum := sum_congr fun y hy => ((h y hy).lift (B' := B) g (Nat.le_refl _)).2
theorem bent_flat (hE : ∀ e ∈ E, e < S.length) (hB : 10 ^ 30 ≤ B) (hp : Pot p S) (hc : cln S x) (hx : isTupD x = false) (hi : ∀ i, x = .int i → i.natAbs ≤ B) :
    ∃ (d : D) (S' : Store), callF DEFS WW (n + 3) i__law_bent [.ref p, x] S = .ok d S' ∧ Th E (B + 10000) S' 3 d ∧ nD S' 3 d ≤ 3 ∧ Gp p S S' := by
  rw [cF_eq D__law_bent rfl]
  simp only [c__law_bent, k__law_bent]
  obtain ⟨t, ht, e1, e2, _⟩ := ty_of hc
  rw [hx] at e2
  simp [ht, e2, law_whole_ok hc]
  have odd : ∀ S1, Gp p S S1 → ∃ (d : D) (S' : Store), callF DEFS WW (n + 2) 10 [.ref p] S1 = .ok d S' ∧ Th E (B + 10000) S' 3 d ∧ nD S' 3 d ≤ 3 ∧ Gp p S S' := fun S1 g1 => by
    obtain ⟨d, S2, o1, o2, o3, o4⟩ := odd_ok (n := n) (fun e he => Nat.lt_of_lt_of_le (hE e he) g1.len) hB g1.pot
    exact ⟨d, S2, o1, o2.mono (by omega), o3, g1.trans o4⟩
  cases hw : wholeD x with
  | false =>
    obtain ⟨d, S2, o1, o2, o3, o4⟩ := odd S (.refl hp)
    simp [o1]
    exact ⟨d, S2, ⟨rfl, rfl⟩, o2, o3, o4⟩
  | true =>
    obtain ⟨i, rfl⟩ : ∃ i, x = .int i := by
      cases x <;> simp [wholeD] at hw
      exact ⟨_, rfl⟩
    simp
    obtain ⟨k, S1, w1, w2, w3, g1, _⟩ := take_ok (n := n + 1) hp (m := 3) (by decide) (by decide)
    simp [w1]
    by_cases hk : 0 < k
    · simp [hk, pow4]
      obtain ⟨j, S2, j1, j2, j3, g2, _⟩ := take_ok (n := n + 1) (S := S1 ++ [.lst [.int 1, .int (-1), .int 9, .int 100, .int 9999, .int (-10000)]]) (m := 6) (Gp.one g1.pot _).pot (by decide) (by decide)
      rw [j1]
      obtain ⟨y, hy, ey⟩ := at_mem (xs := [D.int 1, .int (-1), .int 9, .int 100, .int 9999, .int (-10000)]) j2 j3
      simp [idx_ref (g2.last g1.pot), ey]
      have hii := hi i rfl
      obtain ⟨c, rfl, hc2⟩ : ∃ c : Int, y = .int c ∧ c.natAbs ≤ 10000 := by
        simp at hy
        rcases hy with rfl | rfl | rfl | rfl | rfl | rfl <;> exact ⟨_, rfl, by decide⟩
      simp
      exact ⟨_, _, ⟨rfl, rfl⟩, th_int (by omega), by rw [nd_int]; decide, g1.trans ((Gp.one g1.pot _).trans g2)⟩
    · obtain ⟨d, S2, o1, o2, o3, o4⟩ := odd S1 g1
      simp [hk, o1]
      exact ⟨d, S2, ⟨rfl, rfl⟩, o2, o3, o4⟩
def Bent (E : List Nat) (n p B : Nat) (x : D) (S : Store) (f : Nat) : Prop :=
  ∃ (d : D) (S' : Store), callF DEFS WW n i__law_bent [.ref p, x] S = .ok d S' ∧ Th E (B + 10000) S' (f + 3) d ∧ nD S' (f + 3) d ≤ 3 * nD S f x + 10 ∧ Gp p S S'
theorem bent_fl (hE : ∀ e ∈ E, e < S.length) (hB : 10 ^ 30 ≤ B) (hp : Pot p S) (h : Th E B S f x) (hx : isTupD x = false) : Bent E (n + f + 3) p B x S f := by
  have hi : ∀ i, x = .int i → i.natAbs ≤ B := fun i e => by
    subst e
    cases f <;> exact h
  obtain ⟨d, S', a1, a2, a3, a4⟩ := bent_flat (n := n + f) hE hB hp h.dc.cl hx hi
  obtain ⟨b1, b2, _⟩ := a2.ups f
  rw [show 3 + f = f + 3 by omega] at b1 b2
  exact ⟨d, S', a1, b1, by omega, a4⟩
theorem bent_ok (hpE : p ∈ E) (hB : 10 ^ 30 ≤ B) : ∀ (f : Nat) (x : D) (S : Store), (∀ e ∈ E, e < S.length) → Pot p S → Th E B S f x → nD S f x ≤ 4000 → Bent E (n + f + 3) p B x S f := by
  intro f
  induction f with
  | zero =>
    intro x S hE hp h hn
    refine bent_fl (n := n) (f := 0) hE hB hp h ?_
    cases x <;> first | rfl | exact h.elim
  | succ f ih =>
    intro x S hE hp h hn
    by_cases hxt : isTupD x = true
    · obtain ⟨xs, rfl⟩ := tup_of hxt
      unfold Bent
      rw [show n + (f + 1) + 3 = (n + f + 3) + 1 by omega, cF_eq D__law_bent rfl]
      simp only [c__law_bent, k__law_bent]
      obtain ⟨hl, hx⟩ := h
      have hlen : xs.length ≤ (xs.map (nD S f)).sum := len_sum (fun _ => nd_pos) xs
      rw [nd_tup] at hn
      simp
      obtain ⟨way, S1, w1, w2, w3, g1, _⟩ := take_ok (n := n + f + 2) hp (m := 12) (by decide) (by decide)
      simp [w1]
      have up : ∀ {S'} {ys : List D}, Gp p S S' → (∀ y ∈ ys, y ∈ xs) → ∀ y ∈ ys, Th E (B + 10000) S' (f + 3) y := fun {S' ys} g hs y hy => ((hx y (hs y hy)).lift (g.ke hpE) (by omega)).1
      have sums : ∀ {S'} {ys : List D}, Gp p S S' → ys.Sublist xs → (ys.map (nD S' (f + 3))).sum ≤ (xs.map (nD S f)).sum := fun {S' ys} g hs => by
        rw [lift_sum (g.ke hpE) fun y hy => hx y (hs.subset hy)]
        exact sum_sub hs
      have hE1 : ∀ {S'}, Gp p S S' → ∀ e ∈ E, e < S'.length := fun {S'} g e he => Nat.lt_of_lt_of_le (hE e he) g.len
      by_cases h0 : way = 0 ∨ xs = []
      · have hc : ∀ (k : Store → Res Fl) (k' : Store → Res Fl), (kT (retB true) (evE ⟨callF DEFS WW (n + f + 3)⟩ (.cmp .Eq (.var 1) (.tup .nil)) [some (.ref p), some (.tup xs), some (.int way), none]) (.bl (decide (way = 0))) S1).bind (kT k k') = k S1 := by
          intro k k'
          by_cases hw : way = 0
          · simp [hw]
          · have : xs = [] := h0.resolve_left hw
            simp [hw, eq_unit, this]
        rw [hc]
        obtain ⟨d1, S2, o1, o2, o3, g2⟩ := odd_ok (n := n + f + 1) (p := p) (hE1 g1) hB g1.pot
        simp [o1]
        rw [list_seq (seq_tup xs)]
        simp
        obtain ⟨d2, S4, q1, q2, q3, g4⟩ := odd_ok (n := n + f + 1) (p := p) (S := S2 ++ [.lst xs]) (hE1 (g1.trans (g2.trans (Gp.one g2.pot _)))) hB (Gp.one g2.pot _).pot
        simp [q1]
        have lc := (cut_sub xs (some (-1)) none).length_le
        rw [b_addT (by simp; unfold lim; omega)]
        simp
        rw [b_addT (by unfold lim; omega)]
        simp
        have G2 := g1.trans g2
        have G3 := G2.trans (Gp.one g2.pot (.lst xs))
        have G4 := G3.trans g4
        have q4 : S4[S2.length]? = some (.lst xs) := g4.last g2.pot
        have hS2 : S2.length ≠ p := by have := g2.pot.lt; omega
        have hS2E : S2.length ∉ E := fun z => by have := hE1 G2 _ z; omega
        obtain ⟨i5, S5, e5, a5, b5, g5, _⟩ := take_ok (n := n + f + 2) (p := p) (S := S4 ++ [.lst [d1, .ref S2.length, .tup (xs ++ [d2]), .tup (xs ++ cut xs (some (-1)) none)]]) (m := 4) (Gp.one g4.pot _).pot (by decide) (by decide)
        rw [e5]
        obtain ⟨y, hy, ey⟩ := at_mem (xs := [d1, .ref S2.length, .tup (xs ++ [d2]), .tup (xs ++ cut xs (some (-1)) none)]) a5 b5
        simp [idx_ref (g5.last g4.pot), ey]
        have g45 : Gp p S4 S5 := (Gp.one g4.pot _).trans g5
        have G5 := G4.trans g45
        refine ⟨y, S5, ⟨rfl, rfl⟩, ?_⟩
        have key : Th E (B + 10000) S5 (f + 1 + 3) y ∧ nD S5 (f + 1 + 3) y ≤ 3 * nD S (f + 1) (.tup xs) + 10 := by
          rw [nd_tup]
          have sx : (xs.map (nD S5 (f + 3))).sum ≤ (xs.map (nD S f)).sum := sums G5 (List.Sublist.refl _)
          have ux : ∀ y ∈ xs, Th E (B + 10000) S5 (f + 3) y := up G5 fun _ h => h
          simp only [List.mem_cons, List.not_mem_nil, or_false] at hy
          rcases hy with rfl | rfl | rfl | rfl
          · obtain ⟨r1, r2⟩ := o2.lift (k := f + 1) (B' := B + 10000) ((((Gp.one g2.pot (.lst xs)).trans g4).trans g45).ke hpE) (by omega)
            rw [show 3 + (f + 1) = f + 1 + 3 by omega] at r1 r2
            exact ⟨r1, by omega⟩
          · have q5 := g45.keep _ _ hS2 q4
            refine ⟨th_lst (f := f + 3) q5 hS2E ux, ?_⟩
            show nD S5 (f + 3 + 1) _ ≤ _
            rw [nd_lst q5]
            omega
          · obtain ⟨r1, r2⟩ := q2.lift (k := f) (B' := B + 10000) (g45.ke hpE) (by omega)
            rw [show 3 + f = f + 3 by omega] at r1 r2
            refine ⟨th_tup (f := f + 3) (by simp; unfold lim; omega) fun z hz => ?_, ?_⟩
            · rcases List.mem_append.mp hz with hz | hz
              · exact ux z hz
              · rw [List.mem_singleton.mp hz]; exact r1
            · show nD S5 (f + 3 + 1) _ ≤ _
              rw [nd_tup, List.map_append, List.sum_append]
              simp only [List.map_cons, List.map_nil, List.sum_cons, List.sum_nil]
              omega
          · have sc := sums G5 (cut_sub xs (some (-1)) none)
            refine ⟨th_tup (f := f + 3) (by simp; unfold lim; omega) fun z hz => ?_, ?_⟩
            · rcases List.mem_append.mp hz with hz | hz
              · exact ux z hz
              · exact ux z ((cut_sub xs _ _).subset hz)
            · show nD S5 (f + 3 + 1) _ ≤ _
              rw [nd_tup, List.map_append, List.sum_append]
              omega
        exact ⟨key.1, key.2, G5⟩
      · have hw0 : ¬ way = 0 := fun z => h0 (.inl z)
        have hxe : ¬ xs = [] := fun z => h0 (.inr z)
        have hxe2 : xs.isEmpty = false := by cases xs <;> simp at hxe ⊢
        have hpos : 0 < xs.length := by cases xs <;> simp at hxe ⊢
        simp [hw0, eq_unit, hxe2]
        obtain ⟨at', S2, v1, v2, v3, g2, _⟩ := take_ok (n := n + f + 2) g1.pot (m := (xs.length : Int)) (by omega) (by omega)
        have G2 := g1.trans g2
        obtain ⟨k, rfl⟩ : ∃ k : Nat, at' = k := ⟨at'.toNat, by omega⟩
        have hk : k < xs.length := by omega
        simp [v1]
        by_cases h1 : way = 1
        · subst h1
          simp
          have l1 := (cut_sub xs none (some (k : Int))).length_le
          have l2 := (cut_sub xs (some ((k : Int) + 1)) none).length_le
          rw [b_addT (by unfold lim; omega)]
          refine ⟨_, S2, rfl, ?_, ?_, G2⟩
          · exact th_tup (by simp; unfold lim; omega) (up G2 fun y hy => (List.mem_append.mp hy).elim (fun z => (cut_sub xs _ _).subset z) fun z => (cut_sub xs _ _).subset z)
          · show nD S2 (f + 3 + 1) _ ≤ _
            rw [nd_tup, nd_tup, List.map_append, List.sum_append]
            have s1 := sums G2 (cut_sub xs none (some (k : Int)))
            have s2 := sums G2 (cut_sub xs (some ((k : Int) + 1)) none)
            omega
        · simp [h1]
          by_cases h2 : way = 2
          · subst h2
            simp
            have l1 := (cut_sub xs none (some (k : Int))).length_le
            have l2 := (cut_sub xs (some (k : Int)) (some ((k : Int) + 1))).length_le
            have l3 := (cut_sub xs (some (k : Int)) none).length_le
            rw [b_addT (by unfold lim; omega), bind_ok, kA_eq]
            simp
            rw [b_addT (by simp; unfold lim; omega)]
            refine ⟨_, S2, rfl, ?_, ?_, G2⟩
            · refine th_tup (by simp; unfold lim; omega) (up G2 fun y hy => ?_)
              rcases List.mem_append.mp hy with hy | hy
              · exact (List.mem_append.mp hy).elim (fun z => (cut_sub xs _ _).subset z) fun z => (cut_sub xs _ _).subset z
              · exact (cut_sub xs _ _).subset hy
            · show nD S2 (f + 3 + 1) _ ≤ _
              rw [nd_tup, nd_tup, List.map_append, List.sum_append, List.map_append, List.sum_append]
              have s1 := sums G2 (cut_sub xs none (some (k : Int)))
              have s2 := sums G2 (cut_sub xs (some (k : Int)) (some ((k : Int) + 1)))
              have s3 := sums G2 (cut_sub xs (some (k : Int)) none)
              omega
          · simp [h2, at_nat, hk]
            have hmem : xs[k] ∈ xs := by simp
            have hsum : (xs.map (nD S f)).sum = ((xs.take k).map (nD S f)).sum + (nD S f xs[k] + ((xs.drop (k + 1)).map (nD S f)).sum) := sum_at hk
            have hth := hx xs[k] hmem
            obtain ⟨u1, u2, _⟩ := hth.gp (G2.ke hpE)
            obtain ⟨d, S3, c1, c2, c3, g3⟩ := ih xs[k] S2 (hE1 G2) G2.pot u1 (by omega)
            rw [c1]
            have G3 := G2.trans g3
            simp only [bind_ok, kCons_eq, a_nil, consR_eq, tupR_eq]
            have l1 := (List.take_sublist k xs).length_le
            have l2 := (List.drop_sublist (k + 1) xs).length_le
            rw [cut_take, b_addT (by simp; unfold lim; omega)]
            simp only [bind_ok, kA_eq, e_slc, e_var, getR_0, getR_s, e_bin, e_val, b_add, isNo_bin, isNo_no, b_so, b_no, boundR_int, kS1_eq, kS2_eq, slc_tup]
            rw [show ((k : Int) + 1) = ((k + 1 : Nat) : Int) by omega, cut_drop, b_addT (by simp; unfold lim; omega)]
            refine ⟨_, S3, rfl, ?_, ?_, G3⟩
            · refine th_tup (by simp; unfold lim; omega) fun y hy => ?_
              rcases List.mem_append.mp hy with hy | hy
              · rcases List.mem_append.mp hy with hy | hy
                · exact up G3 (fun z hz => List.mem_of_mem_take hz) y hy
                · rw [List.mem_singleton.mp hy]; exact c2
              · exact up G3 (fun z hz => List.mem_of_mem_drop hz) y hy
            · show nD S3 (f + 3 + 1) _ ≤ _
              rw [nd_tup, nd_tup, List.map_append, List.sum_append, List.map_append, List.sum_append]
              have s1 := lift_sum (k := 3) (G3.ke hpE) (xs := xs.take k) fun y hy => hx y (List.mem_of_mem_take hy)
              have s2 := lift_sum (k := 3) (G3.ke hpE) (xs := xs.drop (k + 1)) fun y hy => hx y (List.mem_of_mem_drop hy)
              rw [s1, s2]
              simp only [List.map_cons, List.map_nil, List.sum_cons, List.sum_nil]
              rw [u2] at c3
              omega
    · exact bent_fl (n := n) (f := f + 1) hE hB hp h (by simpa using hxt)
end
end MP

namespace MP
open PySem L2
section
variable {n p B f : Nat} {E : List Nat} {x : D} {S S' S'' : Store}
/-- a comprehension over a list, nothing is made in it -/
theorem lc_lst {Γ : Cal} {r : Env} {i m : Nat} {elt : C} {xs : List D} {P : Res D → Prop} (g : D → D) (hm : S[m]? = some (.lst xs)) (hl : xs.length ≤ lim) (h : ∀ x ∈ xs, evE Γ elt (r.set i (some x)) S = .ok (g x) S)
    (k : P (.ok (.ref S.length) (S ++ [.lst (xs.map g)]))) : P (lcRun Γ (.one i) .no elt r S (.lst m)) := by
  obtain ⟨acc, S', h1, e, h3⟩ := lcL_ind (src := .lst m) (body := lcT Γ (.one i) .no elt r) (fun q acc S' => S = S' ∧ acc = (xs.take q).map g) (n := xs.length) (by
      rintro q acc S' hk ⟨rfl, rfl⟩
      refine ⟨xs[q], some (g xs[q]), S, by rw [at_lst hm]; simp [hk], by simp [h xs[q] (by simp)], rfl, ?_⟩
      rw [List.take_add_one, List.map_append, List.getElem?_eq_getElem hk]
      rfl) (by
      rintro acc S' ⟨rfl, _⟩
      rw [at_lst hm]; simp) xs.length 0 [] S (by omega) ⟨rfl, rfl⟩
  subst e
  unfold lcRun
  rw [len_lst hm, if_pos hl, h1, bind_ok, newL_eq, h3]
  simpa using k
theorem app_ok {j : Nat} {ys : List D} {v : D} (h : S[j]? = some (.lst ys)) (hl : ys.length < lim) : mthD .append (.ref j) [v] S = .ok .non (S.set j (.lst (ys ++ [v]))) := by
  simp [mthD, h, hl]
theorem kM_app {j : Nat} {ys : List D} {g : Store → Res (List D)} (h : S[j]? = some (.lst ys)) : kM .append g (.ref j) S = (g S).bind (mthD .append (.ref j)) := by
  unfold kM
  have : (Bm.append.ty == kindD (.ref j) S) = true := by simp [Bm.ty, kindD, h]
  rw [if_pos this]
/-- for x in list: found.append(..) -/
theorem for_app {Γ : Cal} {W : Nat} {r : Env} {i m j : Nat} {b : K} {xs ys : List D} {P : Res Fl → Prop} (g : D → D) (hm : S[m]? = some (.lst xs)) (hj : S[j]? = some (.lst ys)) (hmj : m ≠ j) (hl : ys.length + xs.length < lim)
    (h : ∀ x ∈ xs, ∀ o S' zs, S'[j]? = some (.lst zs) → zs.length < lim → forT Γ W (.one i) b x (r.set i o) S' = .ok (.nx (r.set i (some x))) (S'.set j (.lst (zs ++ [g x]))))
    (k : ∀ o, P (.ok (.nx (r.set i o)) (S.set j (.lst (ys ++ xs.map g))))) (hr : r[i]? ≠ none) : P (forRun Γ W (.one i) b r S (.lst m)) := by
  have hjl : j < S.length := by
    rcases Nat.lt_or_ge j S.length with q | q
    · exact q
    · rw [List.getElem?_eq_none q] at hj; cases hj
  refine for_src (m := xs.length) (fun k r' S' => (∃ o, r' = r.set i o) ∧ S' = S.set j (.lst (ys ++ (xs.take k).map g))) (fun _ _ => False) (len_lst hm) ⟨?_, ?_⟩ ?_ ?_ ?_ (fun _ _ h => h.elim)
  · cases e : r[i]? with
    | none => exact absurd e hr
    | some o =>
      refine ⟨o, ?_⟩
      obtain ⟨hi, e⟩ := List.getElem?_eq_some_iff.mp e
      rw [← e]
      simp
  · obtain ⟨hi, e⟩ := List.getElem?_eq_some_iff.mp hj
    simp only [List.take_zero, List.map_nil, List.append_nil]
    rw [← e]
    simp
  · rintro k r' S' hk ⟨⟨o, rfl⟩, rfl⟩
    refine ⟨xs[k], ?_, ?_⟩
    · rw [at_lst (xs := xs) (by rw [List.getElem?_set, if_neg (fun z => hmj z.symm)]; exact hm)]
      simp [hk]
    · rw [h xs[k] (by simp) o _ (ys ++ (xs.take k).map g) (by simp [hjl]) (by simp; omega), step_nx]
      refine ⟨⟨_, rfl⟩, ?_⟩
      rw [List.set_set, List.take_add_one, List.map_append, List.getElem?_eq_getElem hk]
      simp
  · rintro r' S' ⟨_, rfl⟩
    rw [at_lst (xs := xs) (by rw [List.getElem?_set, if_neg (fun z => hmj z.symm)]; exact hm)]
    simp
  · rintro r' S' ⟨⟨o, rfl⟩, rfl⟩
    simpa using k o
theorem choose_map {α : Type} {xs : List α} {Pr : D → Prop} {Q : α → D → Prop} (h : ∀ x ∈ xs, ∃ y, Pr y ∧ Q x y) : ∃ g : α → D, ∀ x ∈ xs, Pr (g x) ∧ Q x (g x) := by
  classical
  refine ⟨fun x => if hx : x ∈ xs then (h x hx).choose else .non, fun x hx => ?_⟩
  simp only [hx, dif_pos]
  exact (h x hx).choose_spec
/-- the same two, told by what holds of each -/
theorem lc_lstA {Γ : Cal} {r : Env} {i m : Nat} {elt : C} {xs : List D} {P : Res D → Prop} (Pr : D → Prop) (hm : S[m]? = some (.lst xs)) (hl : xs.length ≤ lim) (h : ∀ x ∈ xs, ∃ y, Pr y ∧ evE Γ elt (r.set i (some x)) S = .ok y S)
    (k : ∀ S' j ys, Grow S S' → S'[j]? = some (.lst ys) → ys.length = xs.length → (∀ y ∈ ys, Pr y) → S.length ≤ j → P (.ok (.ref j) S')) : P (lcRun Γ (.one i) .no elt r S (.lst m)) := by
  obtain ⟨g, hg⟩ := choose_map h
  refine lc_lst g hm hl (fun x hx => (hg x hx).2) (k _ _ (xs.map g) (.one _) get_last (by simp) (fun y hy => ?_) (Nat.le_refl _))
  obtain ⟨x, hx, rfl⟩ := List.mem_map.mp hy
  exact (hg x hx).1
theorem for_appA {Γ : Cal} {W : Nat} {r : Env} {i m j : Nat} {b : K} {xs ys : List D} {P : Res Fl → Prop} (Pr : D → Prop) (hm : S[m]? = some (.lst xs)) (hj : S[j]? = some (.lst ys)) (hmj : m ≠ j) (hl : ys.length + xs.length < lim) (hy : ∀ y ∈ ys, Pr y)
    (h : ∀ x ∈ xs, ∃ y, Pr y ∧ ∀ o S' zs, S'[j]? = some (.lst zs) → zs.length < lim → forT Γ W (.one i) b x (r.set i o) S' = .ok (.nx (r.set i (some x))) (S'.set j (.lst (zs ++ [y]))))
    (k : ∀ o S' zs, KeepE [j] S S' → S'.length = S.length → S'[j]? = some (.lst zs) → zs.length = ys.length + xs.length → (∀ y ∈ zs, Pr y) → P (.ok (.nx (r.set i o)) S')) (hr : r[i]? ≠ none) : P (forRun Γ W (.one i) b r S (.lst m)) := by
  obtain ⟨g, hg⟩ := choose_map h
  have hjl : j < S.length := by
    rcases Nat.lt_or_ge j S.length with q | q
    · exact q
    · rw [List.getElem?_eq_none q] at hj; cases hj
  refine for_app g hm hj hmj hl (fun x hx => (hg x hx).2) (fun o => k o _ (ys ++ xs.map g) (ke_set (by simp)) (by simp) (by simp [hjl]) (by simp) fun y hyy => ?_) hr
  rcases List.mem_append.mp hyy with hyy | hyy
  · exact hy y hyy
  · obtain ⟨x, hx, rfl⟩ := List.mem_map.mp hyy
    exact (hg x hx).1
/-! the house as a thing -/
theorem th_ints {ns : List Int} (h : ∀ i ∈ ns, i.natAbs ≤ B) : ∀ y ∈ ns.map D.int, Th E B S f y := fun y hy => by
  obtain ⟨i, hi, rfl⟩ := List.mem_map.mp hy
  exact th_int (h i hi)
theorem nd_ints (ns : List Int) : ((ns.map D.int).map (nD S f)).sum = ns.length := by
  induction ns with
  | nil => rfl
  | cons a ns ih => simp only [List.map_cons, List.sum_cons, nd_int, ih, List.length_cons]; omega
/-- a thing without places: of every store -/
def Tr (B f N : Nat) (x : D) : Prop := ∀ E S, Th E B S f x ∧ nD S f x ≤ N
theorem Tr.up {N : Nat} (h : Tr B f N x) : Tr B (f + 1) N x := fun E S => by
  obtain ⟨a, b, _⟩ := (h E S).1.up
  exact ⟨a, by rw [b]; exact (h E S).2⟩
theorem tr_int {i : Int} {N : Nat} (h : i.natAbs ≤ B) (hN : 1 ≤ N) : Tr B f N (.int i) := fun E S => ⟨th_int h, by rw [nd_int]; exact hN⟩
theorem tr_tup {xs : List D} {N M : Nat} (h : ∀ y ∈ xs, Tr B f N y) (hl : xs.length * N + 1 ≤ M) (hM : xs.length ≤ lim) : Tr B (f + 1) M (.tup xs) := fun E S => by
  refine ⟨⟨hM, fun y hy => (h y hy E S).1⟩, ?_⟩
  rw [nd_tup]
  have : (xs.map (nD S f)).sum ≤ xs.length * N := by
    clear hl hM
    induction xs with
    | nil => simp
    | cons a xs ih =>
      have h1 := (h a List.mem_cons_self E S).2
      have h2 := ih fun y hy => h y (List.mem_cons_of_mem _ hy)
      simp only [List.map_cons, List.sum_cons, List.length_cons, Nat.add_mul, Nat.one_mul]
      omega
  omega
end
end MP

namespace MP
open PySem L2
section
variable {n p B f : Nat} {E : List Nat} {x : D} {S S' S'' : Store}
theorem b_mulT {xs : List D} {k : Int} (h0 : xs ≠ []) (h1 : 2 ≤ k) (h2 : k ≤ 1000) (h3 : xs.length ≤ 1000) : binD .Mult (.tup xs) (.int k) S = .ok (.tup (List.replicate k.toNat xs).flatten) S := by
  simp [binD, h0, h1, h2, h3]
theorem at_0 {y : D} {ys : List D} : atI (y :: ys) 0 = some y := by
  have := at_nat (xs := y :: ys) (k := 0)
  simpa using this
theorem Tr.lift {N N' k : Nat} (h : Tr B f N x) (hN : N ≤ N') : Tr B (f + k) N' x := fun E S => by
  obtain ⟨a, b, _⟩ := (h E S).1.ups k
  have := (h E S).2
  exact ⟨a, by omega⟩
theorem tr_bl {b : Bool} {N : Nat} (hN : 1 ≤ N) : Tr B f N (.bl b) := fun E S => ⟨by cases f <;> trivial, by cases f <;> exact hN⟩
def T3 (B : Nat) (x : D) : Prop := Tr B 3 60 x
theorem t4 {a b c d : D} (ha : T3 B a) (hb : T3 B b) (hc : T3 B c) (hd : T3 B d) : Tr B 7 300 (.tup [a, b, c, d]) := by
  have : Tr B 4 300 (.tup [a, b, c, d]) := tr_tup (N := 60) (fun y hy => by
    simp only [List.mem_cons, List.not_mem_nil, or_false] at hy
    rcases hy with rfl | rfl | rfl | rfl <;> assumption) (by show 4 * 60 + 1 ≤ 300; decide) (by show 4 ≤ lim; decide)
  exact this.lift (k := 3) (Nat.le_refl _)
/-- a tuple of ints and bools -/
def small (B : Nat) (y : D) : Prop := (∃ i : Int, y = .int i ∧ i.natAbs ≤ B) ∨ ∃ b, y = .bl b
theorem small.tr {y : D} {N : Nat} (h : small B y) (hN : 1 ≤ N) : Tr B f N y := by
  rcases h with ⟨i, rfl, hi⟩ | ⟨b, rfl⟩
  · exact tr_int hi hN
  · exact tr_bl hN
theorem t3_flat {xs : List D} (h : ∀ y ∈ xs, small B y) (hl : xs.length ≤ 59) : T3 B (.tup xs) := by
  have : Tr B 1 60 (.tup xs) := tr_tup (f := 0) (N := 1) (fun y hy => (h y hy).tr (Nat.le_refl _)) (by omega) (by unfold lim; omega)
  exact this.lift (k := 2) (Nat.le_refl _)
theorem t3_one {y : D} (h : small B y) : T3 B y := h.tr (by decide)
/-- a kind -/
theorem tr_kind {a : D} {xs : List D} (ha : small B a) (h : ∀ y ∈ xs, small B y) (hl : xs.length ≤ 5) : Tr B 2 13 (.tup [a, .tup xs]) := by
  have h1 : Tr B 1 6 (.tup xs) := tr_tup (f := 0) (N := 1) (fun y hy => (h y hy).tr (Nat.le_refl _)) (by omega) (by unfold lim; omega)
  exact tr_tup (N := 6) (fun y hy => by
    simp only [List.mem_cons, List.not_mem_nil, or_false] at hy
    rcases hy with rfl | rfl
    · exact ha.tr (by decide)
    · exact h1) (by show 2 * 6 + 1 ≤ 13; decide) (by show 2 ≤ lim; decide)
theorem t3_kinds {xs : List D} (h : ∀ y ∈ xs, Tr B 2 11 y) (hl : xs.length ≤ 5) : T3 B (.tup xs) := tr_tup (N := 11) h (by omega) (by unfold lim; omega)
theorem tr_kind4 {a : D} {xs : List D} (ha : small B a) (h : ∀ y ∈ xs, small B y) (hl : xs.length ≤ 4) : Tr B 2 11 (.tup [a, .tup xs]) := by
  have h1 : Tr B 1 5 (.tup xs) := tr_tup (f := 0) (N := 1) (fun y hy => (h y hy).tr (Nat.le_refl _)) (by omega) (by unfold lim; omega)
  exact tr_tup (N := 5) (fun y hy => by
    simp only [List.mem_cons, List.not_mem_nil, or_false] at hy
    rcases hy with rfl | rfl
    · exact ha.tr (by decide)
    · exact h1) (by show 2 * 5 + 1 ≤ 11; decide) (by show 2 ≤ lim; decide)
theorem t3_kinds' {xs : List D} (h : ∀ y ∈ xs, Tr B 2 13 y) (hl : xs.length ≤ 4) : T3 B (.tup xs) := tr_tup (N := 13) h (by omega) (by unfold lim; omega)
theorem t3_pairs {xs : List D} (h : ∀ y ∈ xs, Tr B 2 3 y) (hl : xs.length ≤ 16) : T3 B (.tup xs) := tr_tup (N := 3) h (by omega) (by unfold lim; omega)
/-- a list of kinds; four parts -/
theorem t3L {i : Nat} {xs : List D} (h : S[i]? = some (.lst xs)) (hi : i ∉ E) (hx : ∀ y ∈ xs, Tr B 2 11 y) (hl : xs.length ≤ 4) : Th E B S 7 (.ref i) ∧ nD S 7 (.ref i) ≤ 60 := by
  refine ⟨th_lst (f := 6) h hi fun y hy => (((hx y hy).lift (k := 4) (Nat.le_refl _)) E S).1, ?_⟩
  rw [nd_lst (f := 6) h]
  have : (xs.map (nD S 6)).sum ≤ xs.length * 11 := by
    clear h hl
    induction xs with
    | nil => simp
    | cons a xs ih =>
      have h1 : nD S 6 a ≤ 11 := (((hx a List.mem_cons_self).lift (k := 4) (Nat.le_refl _)) E S).2
      have h2 := ih fun y hy => hx y (List.mem_cons_of_mem _ hy)
      simp only [List.map_cons, List.sum_cons, List.length_cons, Nat.add_mul, Nat.one_mul]
      omega
  omega
theorem th4 {a b c d : D} (ha : T3 B a) (hb : Th E B S 7 b ∧ nD S 7 b ≤ 60) (hc : T3 B c) (hd : T3 B d) : Th E B S 8 (.tup [a, b, c, d]) ∧ nD S 8 (.tup [a, b, c, d]) ≤ 400 := by
  have a1 := (ha.lift (k := 4) (N' := 60) (Nat.le_refl _)) E S
  have c1 := (hc.lift (k := 4) (N' := 60) (Nat.le_refl _)) E S
  have d1 := (hd.lift (k := 4) (N' := 60) (Nat.le_refl _)) E S
  refine ⟨th_tup (f := 7) (by show 4 ≤ lim; decide) fun y hy => ?_, ?_⟩
  · simp only [List.mem_cons, List.not_mem_nil, or_false] at hy
    rcases hy with rfl | rfl | rfl | rfl
    · exact a1.1
    · exact hb.1
    · exact c1.1
    · exact d1.1
  · rw [nd_tup]
    simp only [List.map_cons, List.map_nil, List.sum_cons, List.sum_nil]
    have a2 := a1.2
    have c2 := c1.2
    have d2 := d1.2
    have b2 := hb.2
    simp only [Nat.reduceAdd] at a2 c2 d2
    omega
theorem th4' {a b c d : D} (ha : T3 B a) (hb : T3 B b) (hc : Th E B S 7 c ∧ nD S 7 c ≤ 60) (hd : T3 B d) : Th E B S 8 (.tup [a, b, c, d]) ∧ nD S 8 (.tup [a, b, c, d]) ≤ 400 := by
  have a1 := (ha.lift (k := 4) (N' := 60) (Nat.le_refl _)) E S
  have b1 := (hb.lift (k := 4) (N' := 60) (Nat.le_refl _)) E S
  have d1 := (hd.lift (k := 4) (N' := 60) (Nat.le_refl _)) E S
  refine ⟨th_tup (f := 7) (by show 4 ≤ lim; decide) fun y hy => ?_, ?_⟩
  · simp only [List.mem_cons, List.not_mem_nil, or_false] at hy
    rcases hy with rfl | rfl | rfl | rfl
    · exact a1.1
    · exact b1.1
    · exact hc.1
    · exact d1.1
  · rw [nd_tup]
    simp only [List.map_cons, List.map_nil, List.sum_cons, List.sum_nil]
    have a2 := a1.2
    have b2 := b1.2
    have d2 := d1.2
    have c2 := hc.2
    simp only [Nat.reduceAdd] at a2 b2 d2
    omega
theorem gp_app {S8 S9 : Store} {j : Nat} (hp : Pot p S) (G : Gp p S S8) (h : KeepE [j] S8 S9) (hl : S9.length = S8.length) (hj : S.length ≤ j) : Gp p S S9 := by
  have hpl := hp.lt
  refine ⟨by have := G.len; omega, fun i o hi e => ?_, ?_⟩
  · have : i < S.length := by
      rcases Nat.lt_or_ge i S.length with q | q
      · exact q
      · rw [List.getElem?_eq_none q] at e; cases e
    exact h i o (by simp; omega) (G.keep i o hi e)
  · obtain ⟨v, e⟩ := G.pot
    exact ⟨v, h p _ (by simp; omega) e⟩
theorem Th.weak {E' : List Nat} (hs : ∀ e ∈ E, e ∈ E') (h : Th E' B S f x) : Th E B S f x := by
  induction f generalizing x with
  | zero => cases x <;> first | exact h | exact h.elim
  | succ f ih =>
    cases x with
    | tup xs => exact ⟨h.1, fun y hy => ih (h.2 y hy)⟩
    | ref i =>
      obtain ⟨hi, h⟩ := h
      rcases h with ⟨xs, e, hx⟩ | ⟨kvs, e, hx⟩
      · exact ⟨fun z => hi (hs i z), .inl ⟨xs, e, fun y hy => ih (hx y hy)⟩⟩
      · exact ⟨fun z => hi (hs i z), .inr ⟨kvs, e, fun y hy => ⟨(hx y hy).1, ih (hx y hy).2⟩⟩⟩
    | non => exact h
    | bl b => exact h
    | int b => exact h
    | str b => exact h
    | _ => exact h.elim
def Near (S : Store) (r : Res D) (E : List Nat) (B p : Nat) : Prop :=
  ∃ (j : Nat) (ys : List D) (S' : Store), r = .ok (.ref j) S' ∧ S'[j]? = some (.lst ys) ∧ Gp p S S' ∧ S.length ≤ j ∧ ys.length ≤ 100 ∧ ∀ y ∈ ys, Th E B S' 8 y ∧ nD S' 8 y ≤ 400
theorem near_ok (hE : ∀ e ∈ E, e < S.length) (hB : 10 ^ 30 ≤ B) (hp : Pot p S) (v : HV) (hv : v.ok) : Near S (callF DEFS WW (n + 2) i__law_near_bounds [.ref p, v.d] S) E B p := by
  rw [cF_eq D__law_near_bounds rfl]
  simp only [c__law_near_bounds, k__law_near_bounds]
  obtain ⟨⟨l, rr⟩, ks, hks⟩ : ∃ k0 ks, v.ks = k0 :: ks := by
    cases e : v.ks with
    | nil => have := hv.k1; rw [e] at this; simp at this
    | cons a b => exact ⟨a, b, rfl⟩
  have hd : v.d = .tup [.tup (v.rs.map .int), .tup (.tup [.int l, .tup (rr.map .int)] :: ks.map knD), .tup (v.ps.map pairD), .int v.h] := by
    unfold HV.d; rw [hks]; rfl
  rw [hd]
  generalize hrs : v.rs.map D.int = rs
  generalize hps : v.ps.map pairD = ps
  generalize hkk : ks.map knD = kk
  generalize hrr : rr.map D.int = rt
  have lrs : rs.length = v.rs.length := by rw [← hrs]; simp
  simp [at_0]
  obtain ⟨a0, S1, e1, a1, a2, g1, _⟩ := take_ok (n := n) hp (m := (rs.length : Int)) (by have := hv.r1; omega) (by have := hv.r5; omega)
  simp [e1]
  rw [src_seqL get_last]
  simp
  have hr5 := hv.r5
  have hr1 := hv.r1
  have hk4 := hv.k4
  rw [hks] at hk4
  have lkk : kk.length ≤ 3 := by rw [← hkk]; simp at hk4 ⊢; omega
  have hrs0 : rs ≠ [] := fun z => by rw [z] at lrs; simp at lrs; omega
  have sB : ∀ i : Int, i.natAbs ≤ 1000000 → small B (.int i) := fun i hi => .inl ⟨i, rfl, by omega⟩
  have smR : ∀ y ∈ rs, small B y := fun y hy => by
    rw [← hrs] at hy
    obtain ⟨i, hi, rfl⟩ := List.mem_map.mp hy
    have := hv.rs i hi
    exact sB i (by omega)
  have kok := hv.ks
  have knt : ∀ k ∈ v.ks, Tr B 2 11 (knD k) := fun k hk => by
    have q := kok k hk
    refine tr_kind4 (sB _ (by have := q.lo; have := q.hi; omega)) (fun y hy => ?_) (by simp [q.len])
    obtain ⟨i, hi, rfl⟩ := List.mem_map.mp hy
    have := q.rs i hi
    exact sB i (by omega)
  have q0 := kok (l, rr) (by rw [hks]; simp)
  have smT : ∀ y ∈ rt, small B y := fun y hy => by
    rw [← hrr] at hy
    obtain ⟨i, hi, rfl⟩ := List.mem_map.mp hy
    have := q0.rs i hi
    exact sB i (by omega)
  have lrt : rt.length = 4 := by rw [← hrr]; simpa using q0.len
  have sl : small B (.int l) := sB l (by have := q0.lo; have := q0.hi; simp at *; omega)
  have tps : T3 B (.tup ps) := by
    refine t3_pairs (fun y hy => ?_) (by rw [← hps]; simpa using hv.pl)
    rw [← hps] at hy
    obtain ⟨q, hq, rfl⟩ := List.mem_map.mp hy
    have := hv.ps q hq
    have h3 : Tr B 1 3 (pairD q) := tr_tup (f := 0) (N := 1) (fun y hy => by
      simp only [List.mem_cons, List.not_mem_nil, or_false] at hy
      have k4 := hv.k4
      rcases hy with rfl | rfl
      · exact (sB _ (by omega)).tr (Nat.le_refl _)
      · exact (sB _ (by omega)).tr (Nat.le_refl _)) (by show 2 * 1 + 1 ≤ 3; decide) (by show 2 ≤ lim; decide)
    exact h3.lift (k := 1) (Nat.le_refl _)
  have th : T3 B (.int v.h) := t3_one (sB _ (by have := hv.h1; have := hv.h9; omega))
  have trm : T3 B (.tup rs) := t3_flat smR (by omega)
  have kmem : ∀ y ∈ (D.tup [.int l, .tup rt] :: kk), Tr B 2 11 y := fun y hy => by
    rcases List.mem_cons.mp hy with rfl | hy
    · have := knt (l, rr) (by rw [hks]; simp)
      rw [knD] at this
      simp only [hrr] at this
      exact this
    · rw [← hkk] at hy
      obtain ⟨k, hk, rfl⟩ := List.mem_map.mp hy
      exact knt k (by rw [hks]; simp [hk])
  have lkl : (D.tup [.int l, .tup rt] :: kk).length ≤ 4 := by simp; omega
  have kl0 : (D.tup [.int l, .tup rt] :: kk) ≠ [] := by simp
  generalize (D.tup [.int l, .tup rt] :: kk) = kl at kmem lkl kl0 ⊢
  have tkd : T3 B (.tup kl) := t3_kinds kmem (by omega)
  refine lc_lstA (P := fun z => Near S (ends (thenS (z.bind _) _)) E B p) (Tr B 7 300) get_last (by show 5 ≤ lim; decide) (fun c hc => ⟨.tup [.tup (cut rs none (some a0) ++ [c] ++ cut rs (some (a0 + 1)) none), .tup kl, .tup ps, .int v.h], ?_, ?_⟩) fun S2 j2 y2 gr2 hj2 len2 ty2 le2 => ?_
  · have l1 := (cut_sub rs none (some a0)).length_le
    have l2 := (cut_sub rs (some (a0 + 1)) none).length_le
    refine t4 (t3_flat (fun y hy => ?_) (by simp; omega)) tkd tps th
    rcases List.mem_append.mp hy with hy | hy
    · rcases List.mem_append.mp hy with hy | hy
      · exact smR y ((cut_sub rs _ _).subset hy)
      · rw [List.mem_singleton.mp hy]
        simp only [List.mem_cons, List.not_mem_nil, or_false] at hc
        rcases hc with rfl | rfl | rfl | rfl | rfl
        · exact sB _ (by decide)
        · exact sB _ (by decide)
        · exact sB _ (by decide)
        · exact sB _ (by decide)
        · exact .inr ⟨_, rfl⟩
    · exact smR y ((cut_sub rs _ _).subset hy)
  · have l1 := (cut_sub rs none (some a0)).length_le
    have l2 := (cut_sub rs (some (a0 + 1)) none).length_le
    simp
    rw [b_addT (by simp; unfold lim; omega)]
    simp
    rw [b_addT (by simp; unfold lim; omega)]
    simp
  · have G2 : Gp p S S2 := g1.trans (Gp.grow g1.pot ((Grow.one _).trans gr2))
    have l2 : S.length ≤ j2 := by have := g1.len; simp at le2; omega
    simp at len2
    clear gr2 le2
    simp
    rw [src_seqL get_last]
    simp
    refine lc_lstA (P := fun z => Near S (ends (thenS ((z.bind _).bind _) _)) E B p) (Tr B 7 300) get_last (by show 4 ≤ lim; decide) (fun c hc => ?_) fun S3 j3 y3 gr3 hj3 len3 ty3 le3 => ?_
    · have hmem : ∀ y ∈ (List.replicate 6 rs).flatten, small B y := fun y hy => by
        obtain ⟨z, hz, hy⟩ := List.mem_flatten.mp hy
        rw [List.eq_of_mem_replicate hz] at hy
        exact smR y hy
      have hlen6 : (List.replicate 6 rs).flatten.length ≤ 30 := by simp; omega
      obtain ⟨m, rfl⟩ : ∃ m : Int, c = .int m := by
        simp only [List.mem_cons, List.not_mem_nil, or_false] at hc
        rcases hc with rfl | rfl | rfl | rfl <;> exact ⟨_, rfl⟩
      refine ⟨.tup [.tup (cut (List.replicate 6 rs).flatten none (some m)), .tup kl, .tup ps, .int v.h], t4 (t3_flat (fun y hy => hmem y ((cut_sub _ _ _).subset hy)) (by have := (cut_sub (List.replicate 6 rs).flatten none (some m)).length_le; omega)) tkd tps th, ?_⟩
      simp only [e_tup, a_cons, a_nil, e_slc, e_bin, e_var, getR_0, getR_s, List.set_cons_succ, List.set_cons_zero, bind_ok, kA_eq, e_val]
      rw [b_mulT hrs0 (by decide) (by decide) (by omega)]
      simp
    · have G3 : Gp p S S3 := G2.trans (Gp.grow G2.pot ((Grow.one _).trans gr3))
      simp at len3
      have hj2' := gr3.get (get_app (T := [O.lst [.int 0, .int 1, .int 5, .int 6]]) hj2)
      rw [bind_ok, b_addL hj2' hj3 (by unfold lim; omega)]
      have G4 := G3.trans (Gp.one G3.pot (.lst (y2 ++ y3)))
      have hj4 := get_last (S := S3) (o := .lst (y2 ++ y3))
      have l4 : S.length ≤ S3.length := G3.len
      have ty4 : ∀ y ∈ y2 ++ y3, Tr B 7 300 y := fun y hy => (List.mem_append.mp hy).elim (ty2 y) (ty3 y)
      have len4 : (y2 ++ y3).length = 9 := by simp; omega
      generalize y2 ++ y3 = y4 at G4 hj4 ty4 len4 ⊢
      generalize S3 ++ [O.lst y4] = S4 at G4 hj4 ⊢
      generalize S3.length = j4 at hj4 l4 ⊢
      clear hj2' hj3 hj2 gr3 G3 G2 len3 len2 ty2 ty3 le3
      simp
      rw [src_seqL get_last]
      simp
      refine lc_lstA (P := fun z => Near S (ends (thenS ((z.bind _).bind _) _)) E B p) (Tr B 7 300) get_last (by show 5 ≤ lim; decide) (fun c hc => ?_) fun S5 j5 y5 gr5 hj5 len5 ty5 le5 => ?_
      · refine ⟨.tup [.tup rs, .tup kl, .tup ps, c], t4 trm tkd tps (t3_one ?_), by simp⟩
        simp only [List.mem_cons, List.not_mem_nil, or_false] at hc
        rcases hc with rfl | rfl | rfl | rfl | rfl
        · exact sB _ (by decide)
        · exact sB _ (by decide)
        · exact sB _ (by decide)
        · exact sB _ (by decide)
        · exact .inr ⟨_, rfl⟩
      · have G5 : Gp p S S5 := G4.trans (Gp.grow G4.pot ((Grow.one _).trans gr5))
        simp at len5
        have hj4' := gr5.get (get_app (T := [O.lst [.int 0, .int 1, .int 9, .int 10, .bl true]]) hj4)
        rw [bind_ok, b_addL hj4' hj5 (by unfold lim; omega)]
        have G6 := G5.trans (Gp.one G5.pot (.lst (y4 ++ y5)))
        have hj6 := get_last (S := S5) (o := .lst (y4 ++ y5))
        have l6 : S.length ≤ S5.length := G5.len
        have ty6 : ∀ y ∈ y4 ++ y5, Tr B 7 300 y := fun y hy => (List.mem_append.mp hy).elim (ty4 y) (ty5 y)
        have len6 : (y4 ++ y5).length = 14 := by simp; omega
        generalize y4 ++ y5 = y6 at G6 hj6 ty6 len6 ⊢
        generalize S5 ++ [O.lst y6] = S6 at G6 hj6 ⊢
        generalize S5.length = j6 at hj6 l6 ⊢
        clear hj4' hj5 hj4 gr5 G5 G4 len5 len4 ty4 ty5 le5 l4
        simp
        rw [src_seqL get_last]
        simp
        have lcut := (cut_sub kl (some 1) none).length_le
        have kcut : ∀ y ∈ cut kl (some 1) none, Tr B 2 13 y := fun y hy => (kmem y ((cut_sub _ _ _).subset hy)).lift (k := 0) (by decide)
        have lcut3 : (cut kl (some 1) none).length ≤ 3 := by
          have e := cut_drop kl 1
          rw [show ((1 : Nat) : Int) = 1 from rfl] at e
          rw [e]
          simp
          omega
        have tnew : ∀ a b : D, Tr B 2 13 (.tup [a, b]) → T3 B (.tup ([.tup [a, b]] ++ cut kl (some 1) none)) := fun a b h => t3_kinds' (fun y hy => by
          rcases List.mem_append.mp hy with hy | hy
          · rw [List.mem_singleton.mp hy]; exact h
          · exact kcut y hy) (by simp; omega)
        refine lc_lstA (P := fun z => Near S (ends (thenS ((z.bind _).bind _) _)) E B p) (Tr B 7 300) get_last (by show 4 ≤ lim; decide) (fun c hc => ?_) fun S7 j7 y7 gr7 hj7 len7 ty7 le7 => ?_
        · have sc : small B c := by
            simp only [List.mem_cons, List.not_mem_nil, or_false] at hc
            rcases hc with rfl | rfl | rfl | rfl <;> exact sB _ (by decide)
          refine ⟨.tup [.tup rs, .tup ([.tup [c, .tup rt]] ++ cut kl (some 1) none), .tup ps, .int v.h], t4 trm (tnew _ _ (tr_kind sc smT (by omega))) tps th, ?_⟩
          simp
          rw [b_addT (by simp; unfold lim; omega)]
          simp
        · have G7 : Gp p S S7 := G6.trans (Gp.grow G6.pot ((Grow.one _).trans gr7))
          simp at len7
          have hj6' := gr7.get (get_app (T := [O.lst [.int 0, .int 1, .int 999, .int 1000]]) hj6)
          rw [bind_ok, b_addL hj6' hj7 (by unfold lim; omega)]
          have G8 := G7.trans (Gp.one G7.pot (.lst (y6 ++ y7)))
          have hj8 := get_last (S := S7) (o := .lst (y6 ++ y7))
          have l8 : S.length ≤ S7.length := G7.len
          have ty8 : ∀ y ∈ y6 ++ y7, Tr B 7 300 y := fun y hy => (List.mem_append.mp hy).elim (ty6 y) (ty7 y)
          have len8 : (y6 ++ y7).length = 18 := by simp; omega
          generalize y6 ++ y7 = y8 at G8 hj8 ty8 len8 ⊢
          generalize S7 ++ [O.lst y8] = S8 at G8 hj8 ⊢
          generalize S7.length = j8 at hj8 l8 ⊢
          clear hj6' hj7 hj6 gr7 G7 G6 len7 len6 ty6 ty7 le7 l6
          simp
          rw [src_seqL get_last]
          simp
          have hjS8 : j8 < S8.length := by
            rcases Nat.lt_or_ge j8 S8.length with q | q
            · exact q
            · rw [List.getElem?_eq_none q] at hj8; cases hj8
          refine for_appA (P := fun z => Near S (ends (thenS z _)) E B p) (Tr B 7 300) get_last (get_app hj8) (by omega) (by simp; unfold lim; omega) ty8 (fun c hc => ?_) (fun o S9 y9 k9 ls9 hj9 len9 ty9 => ?_) (by simp)
          · obtain ⟨cs, rfl, hcs, hcl⟩ : ∃ cs, c = .tup cs ∧ (∀ y ∈ cs, small B y) ∧ cs.length ≤ 5 := by
              simp only [List.mem_cons, List.not_mem_nil, or_false] at hc
              rcases hc with rfl | rfl | rfl | rfl | rfl | rfl | rfl <;> refine ⟨_, rfl, fun y hy => ?_, by simp⟩ <;>
                (simp only [List.mem_cons, List.not_mem_nil, or_false] at hy; rcases hy with rfl | rfl | rfl | rfl | rfl <;> exact sB _ (by decide))
            refine ⟨.tup [.tup rs, .tup ([.tup [.int l, .tup cs]] ++ cut kl (some 1) none), .tup ps, .int v.h], t4 trm (tnew _ _ (tr_kind sl hcs hcl)) tps th, fun o S' zs hz hzl => ?_⟩
            simp [kM_app hz]
            rw [b_addT (by simp; unfold lim; omega)]
            simp [app_ok hz hzl]
          · have G9 : Gp p S S9 := gp_app hp (G8.trans (Gp.one G8.pot _)) k9 ls9 l8
            have hjS9 : j8 < S9.length := by rw [ls9]; simp; omega
            simp at len9
            rw [len8] at len9
            clear k9 ls9 hj8 hjS8 ty8 len8 G8
            simp only [then_nx, List.set_cons_succ, List.set_cons_zero]
            have hkx : kl.length ≤ 1000 := by omega
            have flat_mem : ∀ {k : Nat} {y : D}, y ∈ (List.replicate k kl).flatten → Tr B 2 11 y := fun {k y} hy => by
              obtain ⟨z, hz, hy⟩ := List.mem_flatten.mp hy
              rw [List.eq_of_mem_replicate hz] at hy
              exact kmem y hy
            have cut_le : ∀ (l : List D) (k : Nat), (cut l none (some (k : Int))).length ≤ k := fun l k => by rw [cut_take]; simp; omega
            simp only [s_seq, s_set, e_slc, e_bin, e_var, getR_0, getR_s, e_val, bind_ok, kA_eq]
            rw [b_mulT kl0 (by decide) (by decide) hkx]
            have mfl : ∀ y ∈ (List.replicate (Int.toNat 5) kl).flatten, Tr B 2 11 y := fun y hy => flat_mem hy
            generalize (List.replicate (Int.toNat 5) kl).flatten = fl at mfl ⊢
            simp
            have l5 := cut_le fl 5
            rw [show ((5 : Nat) : Int) = 5 from rfl] at l5
            have m5 : ∀ y ∈ cut fl none (some 5), Tr B 2 11 y := fun y hy => mfl y ((cut_sub _ _ _).subset hy)
            generalize cut fl none (some 5) = F at l5 m5 ⊢
            clear mfl fl
            rw [list_seq (seq_tup kl)]
            simp
            generalize hS11 : S9 ++ [O.lst kl, O.lst [D.tup F, D.tup (cut F none (some 4)), D.tup [], D.ref (List.length S9), D.tup (cut kl none (some 1))]] = S11
            have k11 : S11[S9.length + 0]? = some (.lst kl) := by rw [← hS11]; exact get_at rfl
            have k12 : S11[S9.length + 1]? = some (O.lst [D.tup F, D.tup (cut F none (some 4)), D.tup [], D.ref (List.length S9), D.tup (cut kl none (some 1))]) := by rw [← hS11]; exact get_at rfl
            have G11 : Gp p S S11 := G9.trans (Gp.grow G9.pot ⟨_, hS11.symm⟩)
            have hj11 : S11[j8]? = some (.lst y9) := by rw [← hS11]; exact get_app hj9
            have lS11 : S11.length = S9.length + 2 := by rw [← hS11]; simp
            have lS9 := G9.len
            clear hS11 hj9
            rw [src_seqL k12]
            simp
            have fr : S9.length ∉ j8 :: E := by
              simp only [List.mem_cons, not_or]
              exact ⟨by omega, fun z => by have := hE _ z; omega⟩
            have unit3 : T3 B (.tup []) := t3_flat (by simp) (by decide)
            have tr8 : ∀ {S'} {y : D}, Tr B 7 300 y → Th (j8 :: E) B S' 8 y ∧ nD S' 8 y ≤ 400 := fun {S' y} h => (h.lift (k := 1) (N' := 400) (by decide)) (j8 :: E) S'
            refine for_appA (P := fun z => Near S (ends (thenS z _)) E B p) (fun y => Th (j8 :: E) B S11 8 y ∧ nD S11 8 y ≤ 400) k12 hj11 (by omega) (by simp; unfold lim; omega) (fun y hy => tr8 (ty9 y hy)) (fun c hc => ?_) (fun o2 S12 y12 k13 ls12 hj12 len12 ty12 => ?_) (by simp)
            · refine ⟨.tup [.tup rs, c, .tup [], .int v.h], ?_, fun o S' zs hz hzl => by simp [kM_app hz, app_ok hz hzl]⟩
              simp only [List.mem_cons, List.not_mem_nil, or_false] at hc
              rcases hc with rfl | rfl | rfl | rfl | rfl
              · exact tr8 (t4 trm (t3_kinds m5 l5) unit3 th)
              · exact tr8 (t4 trm (t3_kinds (fun y hy => m5 y ((cut_sub _ _ _).subset hy)) (by have := (cut_sub F none (some 4)).length_le; omega)) unit3 th)
              · exact tr8 (t4 trm unit3 unit3 th)
              · exact th4 trm (t3L k11 fr kmem lkl) unit3 th
              · exact tr8 (t4 trm (t3_kinds (fun y hy => kmem y ((cut_sub _ _ _).subset hy)) (by have := (cut_sub kl none (some 1)).length_le; omega)) unit3 th)
            · have G12 : Gp p S S12 := gp_app hp G11 k13 ls12 l8
              have ke12 : KeepE (j8 :: E) S11 S12 := fun i o hi e => k13 i o (by simp only [List.mem_cons, not_or] at hi; simp [hi.1]) e
              have gd12 : ∀ y ∈ y12, Th (j8 :: E) B S12 8 y ∧ nD S12 8 y ≤ 400 := fun y hy => by
                obtain ⟨u1, u2⟩ := ty12 y hy
                obtain ⟨w1, w2, _⟩ := u1.gp ke12
                exact ⟨w1, by omega⟩
              have hjS12 : j8 < S12.length := by omega
              rw [len9] at len12
              simp at len12
              clear ty12 ke12 k13 k11 k12 G11 hj11 ls12 lS11 lS9 fr
              simp only [then_nx, List.set_cons_succ, List.set_cons_zero]
              simp only [s_seq, s_set, e_slc, e_bin, e_var, getR_0, getR_s, e_val, bind_ok, kA_eq]
              rw [b_mulT kl0 (by decide) (by decide) hkx]
              have mfl : ∀ y ∈ (List.replicate (Int.toNat 2) kl).flatten, Tr B 2 11 y := fun y hy => flat_mem hy
              generalize (List.replicate (Int.toNat 2) kl).flatten = fl at mfl ⊢
              simp
              have l2' := cut_le fl 2
              rw [show ((2 : Nat) : Int) = 2 from rfl] at l2'
              have m2 : ∀ y ∈ cut fl none (some 2), Tr B 2 11 y := fun y hy => mfl y ((cut_sub _ _ _).subset hy)
              generalize cut fl none (some 2) = F2 at l2' m2 ⊢
              clear mfl fl
              have pr : ∀ cs : List Int, cs.length ≤ 2 → (∀ i ∈ cs, i.natAbs ≤ 1000000) → Tr B 2 3 (.tup (cs.map D.int)) := fun cs hl hc => by
                have h3 : Tr B 1 3 (.tup (cs.map D.int)) := tr_tup (f := 0) (N := 1) (fun y hy => by
                  obtain ⟨i, hi, rfl⟩ := List.mem_map.mp hy
                  exact (sB i (hc i hi)).tr (Nat.le_refl _)) (by simp; omega) (by simp; unfold lim; omega)
                exact h3.lift (k := 1) (Nat.le_refl _)
              have prs : ∀ cs : List (List Int), cs.length ≤ 16 → (∀ c ∈ cs, c.length ≤ 2 ∧ ∀ i ∈ c, i.natAbs ≤ 1000000) → T3 B (.tup (cs.map fun c => .tup (c.map D.int))) := fun cs hl hc => t3_pairs (fun y hy => by
                obtain ⟨c, hc', rfl⟩ := List.mem_map.mp hy
                exact pr c (hc c hc').1 (hc c hc').2) (by simpa using hl)
              generalize hS13 : S12 ++ [O.lst [D.tup [D.int 0, D.int 1]], O.lst [D.tup [], D.tup [D.tup [D.int 0, D.int 1]], D.tup [D.tup [D.int 1, D.int 0]],
                    D.tup [D.tup [D.int 0, D.int 0]], D.tup [D.tup [D.int 0, D.int 1], D.tup [D.int 0, D.int 1]],
                    D.tup [D.tup [D.int 0, D.int 2]], D.tup [D.tup [D.int (-1), D.int 0]], D.ref (List.length S12),
                    D.tup [D.tup [D.int 0]]]] = S13
              have k14 : S13[S12.length + 0]? = some (.lst [D.tup [D.int 0, D.int 1]]) := by rw [← hS13]; exact get_at rfl
              have k15 : S13[S12.length + 1]? = some (O.lst [D.tup [], D.tup [D.tup [D.int 0, D.int 1]], D.tup [D.tup [D.int 1, D.int 0]],
                    D.tup [D.tup [D.int 0, D.int 0]], D.tup [D.tup [D.int 0, D.int 1], D.tup [D.int 0, D.int 1]],
                    D.tup [D.tup [D.int 0, D.int 2]], D.tup [D.tup [D.int (-1), D.int 0]], D.ref (List.length S12),
                    D.tup [D.tup [D.int 0]]]) := by rw [← hS13]; exact get_at rfl
              have gr13 : Grow S12 S13 := ⟨_, hS13.symm⟩
              have G13 : Gp p S S13 := G12.trans (Gp.grow G12.pot gr13)
              have hj13 : S13[j8]? = some (.lst y12) := gr13.get hj12
              have lS13 : S13.length = S12.length + 2 := by rw [← hS13]; simp
              have lS12 := G12.len
              clear hS13
              rw [src_seqL k15]
              simp
              have fr2 : S12.length ∉ j8 :: E := by
                simp only [List.mem_cons, not_or]
                exact ⟨by omega, fun z => by have := hE _ z; omega⟩
              have t2k : T3 B (.tup F2) := t3_kinds m2 (by omega)
              refine for_appA (P := fun z => Near S (ends (thenS z _)) E B p) (fun y => Th (j8 :: E) B S13 8 y ∧ nD S13 8 y ≤ 400) k15 hj13 (by omega) (by simp; unfold lim; omega) (fun y hy => ?_) (fun c hc => ?_) (fun o3 S14 y14 k16 ls14 hj14 len14 ty14 => ?_) (by simp)
              · obtain ⟨u1, u2⟩ := gd12 y hy
                obtain ⟨w1, w2, _⟩ := u1.gp gr13.ke
                exact ⟨w1, by omega⟩
              · refine ⟨.tup [.tup rs, .tup F2, c, .int v.h], ?_, fun o S' zs hz hzl => by simp [kM_app hz, app_ok hz hzl]⟩
                simp only [List.mem_cons, List.not_mem_nil, or_false] at hc
                rcases hc with rfl | rfl | rfl | rfl | rfl | rfl | rfl | rfl | rfl
                · exact tr8 (t4 trm t2k unit3 th)
                · exact tr8 (t4 trm t2k (prs [[0, 1]] (by decide) (by decide)) th)
                · exact tr8 (t4 trm t2k (prs [[1, 0]] (by decide) (by decide)) th)
                · exact tr8 (t4 trm t2k (prs [[0, 0]] (by decide) (by decide)) th)
                · exact tr8 (t4 trm t2k (prs [[0, 1], [0, 1]] (by decide) (by decide)) th)
                · exact tr8 (t4 trm t2k (prs [[0, 2]] (by decide) (by decide)) th)
                · exact tr8 (t4 trm t2k (prs [[-1, 0]] (by decide) (by decide)) th)
                · refine th4' trm t2k (t3L k14 fr2 (fun y hy => ?_) (by decide)) th
                  rw [List.mem_singleton.mp hy]
                  exact (pr [0, 1] (by decide) (by decide)).lift (k := 0) (by decide)
                · exact tr8 (t4 trm t2k (prs [[0]] (by decide) (by decide)) th)
              · have G14 : Gp p S S14 := gp_app hp G13 k16 ls14 l8
                have ke14 : KeepE (j8 :: E) S13 S14 := fun i o hi e => k16 i o (by simp only [List.mem_cons, not_or] at hi; simp [hi.1]) e
                have gd14 : ∀ y ∈ y14, Th (j8 :: E) B S14 8 y ∧ nD S14 8 y ≤ 400 := fun y hy => by
                  obtain ⟨u1, u2⟩ := ty14 y hy
                  obtain ⟨w1, w2, _⟩ := u1.gp ke14
                  exact ⟨w1, by omega⟩
                have hjS14 : j8 < S14.length := by omega
                rw [len12] at len14
                simp at len14
                clear ty14 ke14 k16 k14 k15 G13 hj13 ls14 lS13 lS12 fr2 gr13 G12 hj12 gd12 hjS12 len12
                simp only [then_nx, List.set_cons_succ, List.set_cons_zero]
                simp only [s_seq, s_set, e_slc, e_bin, e_var, getR_0, getR_s, e_val, bind_ok, kA_eq]
                rw [b_mulT kl0 (by decide) (by decide) hkx]
                have mfl : ∀ y ∈ (List.replicate (Int.toNat 3) kl).flatten, Tr B 2 11 y := fun y hy => flat_mem hy
                generalize (List.replicate (Int.toNat 3) kl).flatten = fl at mfl ⊢
                simp
                have l3' := cut_le fl 3
                rw [show ((3 : Nat) : Int) = 3 from rfl] at l3'
                have m3 : ∀ y ∈ cut fl none (some 3), Tr B 2 11 y := fun y hy => mfl y ((cut_sub _ _ _).subset hy)
                generalize cut fl none (some 3) = F3 at l3' m3 ⊢
                clear mfl fl
                rw [src_seqL get_last]
                simp
                have t3k : T3 B (.tup F3) := t3_kinds m3 (by omega)
                refine for_appA (P := fun z => Near S (ends (thenS z _)) E B p) (fun y => Th (j8 :: E) B S14 8 y ∧ nD S14 8 y ≤ 400) get_last (get_app hj14) (by omega) (by simp; unfold lim; omega) gd14 (fun c hc => ?_) (fun o4 S16 y16 k18 ls16 hj16 len16 ty16 => ?_) (by simp)
                · refine ⟨.tup [.tup rs, .tup F3, c, .int v.h], ?_, fun o S' zs hz hzl => by simp [kM_app hz, app_ok hz hzl]⟩
                  simp only [List.mem_cons, List.not_mem_nil, or_false] at hc
                  rcases hc with rfl | rfl | rfl
                  · exact tr8 (t4 trm t3k (prs [[0, 2], [1, 2]] (by decide) (by decide)) th)
                  · exact tr8 (t4 trm t3k (prs [[1, 2], [0, 2]] (by decide) (by decide)) th)
                  · exact tr8 (t4 trm t3k (prs [[0, 1], [0, 2], [1, 2]] (by decide) (by decide)) th)
                · have ke16 : KeepE (j8 :: E) S14 S16 := fun i o hi e => k18 i o (by simp only [List.mem_cons, not_or] at hi; simp [hi.1]) (get_app e)
                  refine ⟨j8, y16, S16, by simp, hj16, gp_app hp (G14.trans (Gp.one G14.pot _)) k18 ls16 l8, l8, by rw [len16, len14]; simp, fun y hy => ?_⟩
                  obtain ⟨u1, u2⟩ := ty16 y hy
                  obtain ⟨w1, w2, _⟩ := u1.gp ke16
                  exact ⟨w1.weak (fun e he => List.mem_cons_of_mem _ he), by omega⟩
end
end MP

namespace MP
open PySem L2
section
variable {n p B f : Nat} {E : List Nat} {x : D} {S S' S'' : Store}
/-- the house is a thing -/
theorem HV.tr (hB : 10 ^ 30 ≤ B) (v : HV) (hv : v.ok) : Tr B 7 241 v.d := by
  have sB : ∀ i : Int, i.natAbs ≤ 1000000 → small B (.int i) := fun i hi => .inl ⟨i, rfl, by omega⟩
  have h1 : T3 B (.tup (v.rs.map .int)) := t3_flat (fun y hy => by
    obtain ⟨i, hi, rfl⟩ := List.mem_map.mp hy
    have := hv.rs i hi
    exact sB i (by omega)) (by have := hv.r5; simp; omega)
  have h2 : T3 B (.tup (v.ks.map knD)) := t3_kinds (fun y hy => by
    obtain ⟨k, hk, rfl⟩ := List.mem_map.mp hy
    have q := hv.ks k hk
    refine tr_kind4 (sB _ (by have := q.lo; have := q.hi; omega)) (fun y hy => ?_) (by simp [q.len])
    obtain ⟨i, hi, rfl⟩ := List.mem_map.mp hy
    have := q.rs i hi
    exact sB i (by omega)) (by have := hv.k4; simp; omega)
  have h3 : T3 B (.tup (v.ps.map pairD)) := t3_pairs (fun y hy => by
    obtain ⟨q, hq, rfl⟩ := List.mem_map.mp hy
    have := hv.ps q hq
    have k4 := hv.k4
    have h3 : Tr B 1 3 (pairD q) := tr_tup (f := 0) (N := 1) (fun y hy => by
      simp only [List.mem_cons, List.not_mem_nil, or_false] at hy
      rcases hy with rfl | rfl
      · exact (sB _ (by omega)).tr (Nat.le_refl _)
      · exact (sB _ (by omega)).tr (Nat.le_refl _)) (by show 2 * 1 + 1 ≤ 3; decide) (by show 2 ≤ lim; decide)
    exact h3.lift (k := 1) (Nat.le_refl _)) (by simpa using hv.pl)
  have h4 : T3 B (.int v.h) := t3_one (sB _ (by have := hv.h1; have := hv.h9; omega))
  have : Tr B 4 241 v.d := tr_tup (N := 60) (fun y hy => by
    simp only [List.mem_cons, List.not_mem_nil, or_false] at hy
    rcases hy with rfl | rfl | rfl | rfl
    · exact h1
    · exact h2
    · exact h3
    · exact h4) (by show 4 * 60 + 1 ≤ 241; decide) (by show 4 ≤ lim; decide)
  exact this.lift (k := 3) (Nat.le_refl _)
/-- a place that was not there -/
theorem Th.fresh {t : Nat} (h : Th E B S f x) (ht : S.length ≤ t) : Th (t :: E) B S f x := by
  induction f generalizing x with
  | zero => cases x <;> first | exact h | exact h.elim
  | succ f ih =>
    cases x with
    | tup xs => exact ⟨h.1, fun y hy => ih (h.2 y hy)⟩
    | ref i =>
      obtain ⟨hi, h⟩ := h
      have lt : ∀ {o}, S[i]? = some o → i ∉ t :: E := fun {o} e => by
        have : i < S.length := by
          rcases Nat.lt_or_ge i S.length with q | q
          · exact q
          · rw [List.getElem?_eq_none q] at e; cases e
        simp only [List.mem_cons, not_or]
        exact ⟨by omega, hi⟩
      rcases h with ⟨xs, e, hx⟩ | ⟨kvs, e, hx⟩
      · exact ⟨lt e, .inl ⟨xs, e, fun y hy => ih (hx y hy)⟩⟩
      · exact ⟨lt e, .inr ⟨kvs, e, fun y hy => ⟨(hx y hy).1, ih (hx y hy).2⟩⟩⟩
    | non => exact h
    | bl b => exact h
    | int b => exact h
    | str b => exact h
    | _ => exact h.elim
def cN : Nat → Nat
  | 0 => 241
  | i + 1 => 3 * cN i + 10
/-- the laps -/
theorem laps_ok {Γ : Cal} {m : Nat} {P : Res Fl → Prop} {d : D} (hΓ : Γ = ⟨callF DEFS WW (n + 20)⟩) (hpE : p ∈ E) (hE : ∀ e ∈ E, e < S.length) (hp : Pot p S) (hm : m ≤ 3) (hd : Th E (10 ^ 30) S 7 d) (hn : nD S 7 d ≤ 241) (a b c e g o0 h h' : Option D)
    (k : ∀ o S' d', Gp p S S' → Th E (10 ^ 31) S' 16 d' → nD S' 16 d' ≤ 6637 → P (.ok (.nx [a, b, some (.ref p), c, e, g, some d', o, h, h']) S')) :
    P (forRun Γ WW (.one 7) (.seq (.set 6 (.call i__law_bent (.cons (.var 2) (.cons (.var 6) .nil)))) .skip) [a, b, some (.ref p), c, e, g, some d, o0, h, h'] S (.rng 0 m)) := by
  subst hΓ
  obtain ⟨Q, hQ⟩ : ∃ Q : Nat → Env → Store → Prop, Q = fun i r S' => Gp p S S' ∧ ∃ (o : Option D) (d' : D), r = [a, b, some (.ref p), c, e, g, some d', o, h, h'] ∧ Th E (10 ^ 30 + 10000 * i) S' (7 + 3 * i) d' ∧ nD S' (7 + 3 * i) d' ≤ cN i := ⟨_, rfl⟩
  have c3 : ∀ i, i ≤ 3 → cN i ≤ 6637 := fun i hi => by
    match i, hi with
    | 0, _ => decide
    | 1, _ => decide
    | 2, _ => decide
    | 3, _ => decide
  have c2 : ∀ i, i < 3 → cN i ≤ 4000 := fun i hi => by
    match i, hi with
    | 0, _ => decide
    | 1, _ => decide
    | 2, _ => decide
  refine for_rng (P := P) Q (fun _ _ => False) ?_ ?_ ?_ (fun _ _ h => h.elim)
  · rw [hQ]
    exact ⟨.refl hp, o0, d, rfl, hd, hn⟩
  · intro i r S1 hi hq
    rw [hQ] at hq
    obtain ⟨g1, o, d1, rfl, t1, n1⟩ := hq
    have hi3 : i < 3 := by omega
    obtain ⟨d2, S2, e2, t2, n2, g2⟩ := bent_ok (n := n + 10 - 3 * i) (p := p) (B := 10 ^ 30 + 10000 * i) hpE (by omega) (7 + 3 * i) d1 S1 (fun e he => Nat.lt_of_lt_of_le (hE e he) g1.len) g1.pot t1 (Nat.le_trans n1 (c2 i hi3))
    rw [show n + 10 - 3 * i + (7 + 3 * i) + 3 = n + 20 by omega] at e2
    simp [e2]
    rw [hQ]
    refine ⟨g1.trans g2, _, d2, rfl, ?_, ?_⟩
    · rw [show 10 ^ 30 + 10000 * (i + 1) = 10 ^ 30 + 10000 * i + 10000 by omega, show 7 + 3 * (i + 1) = 7 + 3 * i + 3 by omega]
      exact t2
    · rw [show 7 + 3 * (i + 1) = 7 + 3 * i + 3 by omega]
      show _ ≤ 3 * cN i + 10
      omega
  · intro r S1 hq
    rw [hQ] at hq
    obtain ⟨g1, o, d1, rfl, t1, n1⟩ := hq
    obtain ⟨u1, u2, _⟩ := t1.ups (9 - 3 * m)
    rw [show 7 + 3 * m + (9 - 3 * m) = 16 by omega] at u1 u2
    exact k o S1 d1 g1 (u1.mono (by omega)) (by have := c3 m hm; omega)
end
end MP

namespace MP
open PySem L2
section
variable {n p B f : Nat} {E : List Nat} {x : D} {S S' S'' : Store}
theorem turn_ok (ns : List Int) (i : Nat) (S : Store) (o2 o3 o4 o5 o6 o7 o8 o9 o1 : Option D) (R : D → Store → Prop) :
    StepP (fun r S' => ∃ o1 o2 o3 o4 o5 o6 o7 o8 o9, r = [some (.con (ns.map D.int)), o1, o2, o3, o4, o5, o6, o7, o8, o9]) R
      (forT ⟨callF DEFS WW 20⟩ WW (.one 1) (match k_law with | .seq (.for_ _ _ _ b) _ => b | _ => .skip) (.int (0 + i)) [some (.con (ns.map D.int)), o1, o2, o3, o4, o5, o6, o7, o8, o9] S) := by
  simp only [k_law]
  obtain ⟨c, hc⟩ := cell_ok (n := 19) (S := S) ns i
  obtain ⟨v, hv⟩ := pot_ok (n := 19) (S := S) c
  simp [hc, hv]
  have hp : Pot S.length (S ++ [.lst [.int v]]) := ⟨v, get_last⟩
  obtain ⟨hh, S2, e2, ok2, g2⟩ := house_ok (n := 17) hp
  obtain ⟨S3, gr3, e3⟩ := is_house_ok (n := 16) ((HV.tr (B := 10 ^ 30) (Nat.le_refl _) hh ok2) [] S2).1.dc
  simp [e2, e3, ok2.is]
  have G3 := g2.trans (Gp.grow g2.pot gr3)
  generalize hpp : S.length = p at hp g2 G3 e2 ⊢
  have hE : ∀ {S'}, Pot p S' → ∀ e ∈ [p], e < S'.length := fun {S'} h e he => by rw [List.mem_singleton.mp he]; exact h.lt
  obtain ⟨d1, S4, e4, t4', n4, g4⟩ := odd_ok (n := 18) (E := [p]) (B := 10 ^ 30) (hE G3.pot) (Nat.le_refl _) G3.pot
  simp [e4]
  rw [list_seq (S := S4) (x := hh.d) (xs := [.tup (hh.rs.map .int), .tup (hh.ks.map knD), .tup (hh.ps.map pairD), .int hh.h]) rfl]
  simp
  generalize hS6 : S4 ++ [_, _] = S6
  have gr6 : Grow S4 S6 := ⟨_, hS6.symm⟩
  have k61 : S6[S4.length + 0]? = some (.lst [.tup (hh.rs.map .int), .tup (hh.ks.map knD), .tup (hh.ps.map pairD), .int hh.h]) := by rw [← hS6]; exact get_at rfl
  have k62 : S6[S4.length + 1]? = some (.lst [d1, .ref S4.length]) := by rw [← hS6]; exact get_at rfl
  have G6 := (G3.trans g4).trans (Gp.grow g4.pot gr6)
  obtain ⟨j, ys, S7, e7, hj7, g7, l7, len7, t7⟩ := near_ok (n := 18) (E := [p]) (B := 10 ^ 30) (hE G6.pot) (Nat.le_refl _) G6.pot hh ok2
  simp [e7]
  have hpS4 : S4.length ≠ p := by have := g4.pot.lt; omega
  have hpS41 : S4.length + 1 ≠ p := by have := g4.pot.lt; omega
  have g47 : Gp p S4 S7 := (Gp.grow g4.pot gr6).trans g7
  have k71 := g7.keep _ _ hpS4 k61
  rw [b_addL (g7.keep _ _ hpS41 k62) hj7 (by simp; unfold lim; omega)]
  have gd7 : ∀ y ∈ [d1, D.ref S4.length] ++ ys, Th [p] (10 ^ 31) S7 16 y ∧ nD S7 16 y ≤ 6637 := fun y hy => by
    rcases List.mem_append.mp hy with hy | hy
    · simp only [List.mem_cons, List.not_mem_nil, or_false] at hy
      rcases hy with rfl | rfl
      · obtain ⟨u1, u2⟩ := t4'.lift (k := 13) (B' := 10 ^ 31) (g47.ke (by simp)) (by decide)
        exact ⟨u1, by rw [show 16 = 3 + 13 from rfl]; omega⟩
      · have ht := HV.tr (B := 10 ^ 30) (Nat.le_refl _) hh ok2 [p] S7
        have hf : S4.length ∉ [p] := by simpa using hpS4
        have q1 : Th [p] (10 ^ 30) S7 7 (.ref S4.length) := th_lst (f := 6) k71 hf ht.1.2
        have q2 : nD S7 7 (.ref S4.length) ≤ 241 := by rw [nd_lst (f := 6) k71]; exact ht.2
        obtain ⟨u1, u2, _⟩ := q1.ups 9
        exact ⟨u1.mono (by decide), by rw [show 16 = 7 + 9 from rfl]; omega⟩
    · obtain ⟨u1, u2⟩ := t7 y hy
      obtain ⟨w1, w2, _⟩ := u1.ups 8
      exact ⟨w1.mono (by decide), by rw [show 16 = 8 + 8 from rfl]; omega⟩
  have lzs : ([d1, D.ref S4.length] ++ ys).length ≤ 102 := by simp; omega
  generalize [d1, D.ref S4.length] ++ ys = zs at gd7 lzs ⊢
  have G8 := (G6.trans g7).trans (Gp.one g7.pot (.lst zs))
  have hj8 := get_last (S := S7) (o := .lst zs)
  have gd8 : ∀ y ∈ zs, Th [S7.length, p] (10 ^ 31) (S7 ++ [.lst zs]) 16 y ∧ nD (S7 ++ [.lst zs]) 16 y ≤ 6637 := fun y hy => by
    obtain ⟨u1, u2⟩ := gd7 y hy
    obtain ⟨w1, w2, _⟩ := (u1.fresh (Nat.le_refl _)).gp (Grow.one (.lst zs)).ke
    exact ⟨w1, by omega⟩
  have htp : S7.length ≠ p := by have := g7.pot.lt; omega
  have P8 := G8.pot
  generalize S7 ++ [O.lst zs] = S8 at P8 hj8 gd8 ⊢
  generalize S7.length = t at hj8 gd8 htp ⊢
  clear gd7 G8 G6 k71 k61 k62 hj7 t7 e7 g7 l7 len7 hS6 gr6 g47 G3 g4 e4 t4' n4 e3 e2 g2 gr3 hp hc hv hpp hpS4 hpS41
  simp
  rw [show srcOf .rng [.int 6] S8 = some (.rng 0 6) from rfl]
  simp
  obtain ⟨Good, hGood⟩ : ∃ Good : Store → D → Prop, Good = fun S y => Th [t, p] (10 ^ 31) S 16 y ∧ nD S 16 y ≤ 6637 := ⟨_, rfl⟩
  have good_ke : ∀ {S1 S2 : Store} {y : D}, KeepE [t, p] S1 S2 → Good S1 y → Good S2 y := fun {S1 S2 y} k h => by
    rw [hGood] at h ⊢
    obtain ⟨w1, w2, _⟩ := h.1.gp k
    exact ⟨w1, by omega⟩
  obtain ⟨Q, hQ⟩ : ∃ Q : Nat → Env → Store → Prop, Q = fun k r S' => Pot p S' ∧ ∃ (zs : List D) (o5 o6 o7 : Option D), r = [some (D.con (ns.map D.int)), some (D.int i), some (D.ref p), some hh.d, some (D.ref t), o5, o6, o7, o8, o9] ∧ S'[t]? = some (.lst zs) ∧ zs.length ≤ 102 + k ∧ ∀ y ∈ zs, Good S' y := ⟨_, rfl⟩
  refine for_rng (P := fun z => StepP _ _ (thenS z _)) Q (fun _ _ => False) ?_ ?_ ?_ (fun _ _ h => h.elim)
  · rw [hQ]
    exact ⟨P8, zs, o5, o6, o7, rfl, hj8, lzs, fun y hy => by rw [hGood]; exact gd8 y hy⟩
  · intro k r S9 hk hq
    rw [hQ] at hq
    obtain ⟨P9, z9, q5, q6, q7, rfl, hj9, l9, gd9⟩ := hq
    obtain ⟨m, S10, e10, a10, b10, g10, _⟩ := take_ok (n := 19) P9 (m := 3) (by decide) (by decide)
    simp [e10, src_rng1 (S := S10) (j := 1 + m) (by unfold big; omega) (by unfold big; omega)]
    have hj10 := g10.keep _ _ htp hj9
    have ht10 : t < S10.length := by
      rcases Nat.lt_or_ge t S10.length with q | q
      · exact q
      · rw [List.getElem?_eq_none q] at hj10; cases hj10
    have hd := HV.tr (B := 10 ^ 30) (Nat.le_refl _) hh ok2 [t, p] S10
    refine laps_ok (n := 0) (E := [t, p]) (P := fun z => StepP _ _ (thenS z _)) rfl (by simp) (fun e he => ?_) g10.pot (by omega) hd.1 hd.2 _ _ _ _ _ _ _ _ fun o S11 d' g11 td nd => ?_
    · simp only [List.mem_cons, List.not_mem_nil, or_false] at he
      rcases he with rfl | rfl
      · exact ht10
      · exact g10.pot.lt
    · have hj11 := g11.keep _ _ htp hj10
      simp [kM_app hj11, app_ok hj11 (show z9.length < lim by unfold lim; omega)]
      rw [hQ]
      have ke : KeepE [t, p] S9 S11 := (g10.ke (by simp)).trans (g11.ke (by simp))
      have ks : KeepE [t, p] S11 (S11.set t (.lst (z9 ++ [d']))) := ke_set (by simp)
      obtain ⟨w, hw⟩ := g11.pot
      refine ⟨⟨w, ?_⟩, z9 ++ [d'], _, _, _, rfl, ?_, by simp; omega, fun y hy => ?_⟩
      · rw [List.getElem?_set, if_neg htp]; exact hw
      · have hl11 := g11.len
        have ht11 : t < S11.length := by omega
        rw [List.getElem?_set, if_pos rfl, if_pos ht11]
      · rcases List.mem_append.mp hy with hy | hy
        · exact good_ke (ke.trans ks) (gd9 y hy)
        · rw [List.mem_singleton.mp hy]
          exact good_ke ks (by rw [hGood]; exact ⟨td, nd⟩)
  · intro r S9 hq
    rw [hQ] at hq
    obtain ⟨P9, z9, q5, q6, q7, rfl, hj9, l9, gd9⟩ := hq
    simp [src_seqL hj9]
    have hBB : BB (10 ^ 31) := Nat.lt_of_lt_of_le (by decide : 10 ^ 31 < 2 ^ 200) (Nat.pow_le_pow_right (by decide) (by decide))
    refine for_src (P := fun z => StepP _ _ (thenS z _)) (m := z9.length) (fun k r S' => Grow S9 S' ∧ ∃ (q8 q9 : Option D), r = [some (D.con (ns.map D.int)), some (D.int i), some (D.ref p), some hh.d, some (D.ref t), q5, q6, q7, q8, q9]) (fun _ _ => False) (len_lst hj9) ⟨.refl, o8, o9, rfl⟩ ?_ ?_ ?_ (fun _ _ h => h.elim)
    · rintro k r S10 hk ⟨gr, q8, q9, rfl⟩
      refine ⟨z9[k], by rw [at_lst (gr.get hj9)]; simp [hk], ?_⟩
      have hg := good_ke gr.ke (gd9 z9[k] (by simp))
      rw [hGood] at hg
      obtain ⟨u1, u2⟩ := hg
      obtain ⟨tx, r1, r2⟩ := u1.repr hBB (by decide) (by omega)
      have dc := u1.dc
      obtain ⟨S11, g11, e11⟩ := is_house_ok (n := 16) dc
      obtain ⟨S12, g12, e12⟩ := law_is_house_ok (n := 16) (g11.dc dc)
      have rb : ∀ (b : Bool) S, ∃ y, bltD .repr [.bl b] S = .ok (.str y) S ∧ ∀ S', bltD .repr [.bl b] S' = .ok (.str y) S' := fun b S => ⟨if b then "True" else "False", by cases b <;> rfl, fun S' => by cases b <;> rfl⟩
      obtain ⟨tb, _, hb⟩ := rb (isHouseD z9[k]) S11
      simp [r1, e11, hb, e12, r2 S12 (g11.trans g12).ke]
      exact gr.trans (g11.trans g12)
    · rintro r S10 ⟨gr, q8, q9, rfl⟩
      rw [at_lst (gr.get hj9)]; simp
    · rintro r S10 ⟨gr, q8, q9, rfl⟩
      simp
end
end MP

namespace MPL
open PySem L2 MP
def kk : Nat := 21
theorem law_ok (ns : List Int) (hn : ns.length ≤ 63) : ∃ S', callF DEFS WW kk i_law [.con (ns.map D.int)] [] = .ok (.bl true) S' := by
  show ∃ S', callF DEFS WW (20 + 1) i_law [.con (ns.map D.int)] [] = .ok (.bl true) S'
  rw [cF_eq D_law rfl]
  simp only [c_law]
  simp only [k_law]
  simp
  have key : ∀ m : Int, 0 ≤ m → m ≤ 100 → ∃ S', ends (thenS (onSrc (srcOf .rng [.int m] []) (forRun ⟨callF DEFS WW 20⟩ WW (.one 1) (match k_law with | .seq (.for_ _ _ _ b) _ => b | _ => .skip) [some (.con (ns.map D.int)), none, none, none, none, none, none, none, none, none] [])) (evS ⟨callF DEFS WW 20⟩ WW (.seq (.ret (.val (.bl true))) .skip))) = .ok (.bl true) S' := by
    intro m h0 h1
    rw [src_rng1 (S := []) (j := m) (by unfold big; omega) (by unfold big; omega), onSrc_some]
    refine for_rng (P := fun z => ∃ S', ends (thenS z _) = .ok (.bl true) S') (fun k r S' => ∃ o1 o2 o3 o4 o5 o6 o7 o8 o9, r = [some (.con (ns.map D.int)), o1, o2, o3, o4, o5, o6, o7, o8, o9]) (fun _ _ => False) ⟨_, _, _, _, _, _, _, _, _, rfl⟩ ?_ ?_ (fun _ _ h => h.elim)
    · rintro i r S hi ⟨o1, o2, o3, o4, o5, o6, o7, o8, o9, rfl⟩
      exact turn_ok ns i S o2 o3 o4 o5 o6 o7 o8 o9 o1 (fun _ _ => False)
    · rintro r S ⟨o1, o2, o3, o4, o5, o6, o7, o8, o9, rfl⟩
      exact ⟨S, by simp⟩
  simp only [k_law] at key
  refine key _ ?_ ?_
  · split <;> (try split) <;> omega
  · split <;> (try split) <;> omega
end MPL

/-! the text of law_k01_houses_looked_at -/
namespace MPL
open PySem PySem.Spec PyProof.Rows L2 MP
abbrev pw : Program := PySem.Challenge.pw_rimehold_k01_houses_looked_at
def top (i : Nat) : Stmt := pw.main.body.getD i (.Pass ⟨0, 0, 0, 0⟩)
def dd_is_whole : He.DefD := ⟨("is_whole", none), "is_whole", "is_whole", defArgs (top 7), defBody (top 7), defScope (top 7), [], []⟩
def fd_is_whole : Fd := ⟨["thing"], ["thing"], dd_is_whole, c_is_whole⟩
def dd_is_within : He.DefD := ⟨("is_within", none), "is_within", "is_within", defArgs (top 8), defBody (top 8), defScope (top 8), [], []⟩
def fd_is_within : Fd := ⟨["thing", "low", "high"], ["thing", "low", "high"], dd_is_within, c_is_within⟩
def dd_is_kind : He.DefD := ⟨("is_kind", none), "is_kind", "is_kind", defArgs (top 9), defBody (top 9), defScope (top 9), [], []⟩
def fd_is_kind : Fd := ⟨["thing", "rates", "rate", "k"], ["thing"], dd_is_kind, c_is_kind⟩
def dd_are_apart : He.DefD := ⟨("are_apart", none), "are_apart", "are_apart", defArgs (top 10), defBody (top 10), defScope (top 10), [], []⟩
def fd_are_apart : Fd := ⟨["many", "thing", "one", "kind", "k"], ["many", "thing"], dd_are_apart, c_are_apart⟩
def dd_is_house : He.DefD := ⟨("is_house", none), "is_house", "is_house", defArgs (top 11), defBody (top 11), defScope (top 11), [], []⟩
def fd_is_house : Fd := ⟨["thing", "rooms", "kinds", "apart", "hold", "cold", "one"], ["thing"], dd_is_house, c_is_house⟩
def dd__law_cell_at : He.DefD := ⟨("_law_cell_at", none), "_law_cell_at", "_law_cell_at", defArgs (top 13), defBody (top 13), defScope (top 13), [], []⟩
def fd__law_cell_at : Fd := ⟨["_law_script", "_law_k"], ["_law_script", "_law_k"], dd__law_cell_at, c__law_cell_at⟩
def dd__law_pot : He.DefD := ⟨("_law_pot", none), "_law_pot", "_law_pot", defArgs (top 14), defBody (top 14), defScope (top 14), [], []⟩
def fd__law_pot : Fd := ⟨["_law_cell", "_law_number", "_law_j", "_law_more"], ["_law_cell"], dd__law_pot, c__law_pot⟩
def dd__law_take : He.DefD := ⟨("_law_take", none), "_law_take", "_law_take", defArgs (top 15), defBody (top 15), defScope (top 15), [], []⟩
def fd__law_take : Fd := ⟨["_law_pot_here", "_law_far", "_law_found"], ["_law_pot_here", "_law_far"], dd__law_take, c__law_take⟩
def dd__law_whole : He.DefD := ⟨("_law_whole", none), "_law_whole", "_law_whole", defArgs (top 16), defBody (top 16), defScope (top 16), [], []⟩
def fd__law_whole : Fd := ⟨["_law_thing"], ["_law_thing"], dd__law_whole, c__law_whole⟩
def dd__law_within : He.DefD := ⟨("_law_within", none), "_law_within", "_law_within", defArgs (top 17), defBody (top 17), defScope (top 17), [], []⟩
def fd__law_within : Fd := ⟨["_law_thing", "_law_low", "_law_high"], ["_law_thing", "_law_low", "_law_high"], dd__law_within, c__law_within⟩
def dd__law_odd : He.DefD := ⟨("_law_odd", none), "_law_odd", "_law_odd", defArgs (top 18), defBody (top 18), defScope (top 18), [], []⟩
def fd__law_odd : Fd := ⟨["_law_pot_here", "_law_some"], ["_law_pot_here"], dd__law_odd, c__law_odd⟩
def dd__law_bent : He.DefD := ⟨("_law_bent", none), "_law_bent", "_law_bent", defArgs (top 19), defBody (top 19), defScope (top 19), [], []⟩
def fd__law_bent : Fd := ⟨["_law_pot_here", "_law_thing", "_law_way", "_law_at"], ["_law_pot_here", "_law_thing"], dd__law_bent, c__law_bent⟩
def dd__law_kind_of : He.DefD := ⟨("_law_kind_of", none), "_law_kind_of", "_law_kind_of", defArgs (top 20), defBody (top 20), defScope (top 20), [], []⟩
def fd__law_kind_of : Fd := ⟨["_law_pot_here", "_law_top", "_law_rates", "_law_cold"], ["_law_pot_here"], dd__law_kind_of, c__law_kind_of⟩
def dd__law_house : He.DefD := ⟨("_law_house", none), "_law_house", "_law_house", defArgs (top 21), defBody (top 21), defScope (top 21), [], []⟩
def fd__law_house : Fd := ⟨["_law_pot_here", "_law_rooms", "_law_room", "_law_kinds", "_law_kind", "_law_pairs", "_law_other"], ["_law_pot_here"], dd__law_house, c__law_house⟩
def dd__law_is_kind : He.DefD := ⟨("_law_is_kind", none), "_law_is_kind", "_law_is_kind", defArgs (top 22), defBody (top 22), defScope (top 22), [], []⟩
def fd__law_is_kind : Fd := ⟨["_law_thing", "_law_rate"], ["_law_thing"], dd__law_is_kind, c__law_is_kind⟩
def dd__law_is_house : He.DefD := ⟨("_law_is_house", none), "_law_is_house", "_law_is_house", defArgs (top 23), defBody (top 23), defScope (top 23), [], []⟩
def fd__law_is_house : Fd := ⟨["_law_thing", "_law_part", "_law_rooms", "_law_kinds", "_law_pairs", "_law_hold", "_law_cold", "_law_one", "_law_behind", "_law_pair"], ["_law_thing"], dd__law_is_house, c__law_is_house⟩
def dd__law_near_bounds : He.DefD := ⟨("_law_near_bounds", none), "_law_near_bounds", "_law_near_bounds", defArgs (top 24), defBody (top 24), defScope (top 24), [], []⟩
def fd__law_near_bounds : Fd := ⟨["_law_pot_here", "_law_house_here", "_law_rooms", "_law_kinds", "_law_pairs", "_law_hold", "_law_limit", "_law_rates", "_law_at", "_law_found", "_law_cold", "_law_many", "_law_number", "_law_some", "_law_five", "_law_two", "_law_three"], ["_law_pot_here", "_law_house_here"], dd__law_near_bounds, c__law_near_bounds⟩
def dd_law : He.DefD := ⟨("law", none), "law", "law", defArgs (top 25), defBody (top 25), defScope (top 25), [], []⟩
def fd_law : Fd := ⟨["_law_script", "_law_k", "_law_pot_here", "_law_house_here", "_law_things", "_law_turn", "_law_bad", "_law_lap", "_law_thing", "_law_kept"], ["_law_script"], dd_law, c_law⟩
def fn : List He.DefD := [dd_is_whole, dd_is_within, dd_is_kind, dd_are_apart, dd_is_house, dd__law_cell_at, dd__law_pot, dd__law_take, dd__law_whole, dd__law_within, dd__law_odd, dd__law_bent, dd__law_kind_of, dd__law_house, dd__law_is_kind, dd__law_is_house, dd__law_near_bounds, dd_law]
def T : Tab := ⟨[("MOST_ROOMS", 5), ("MOST_COLD", 3), ("MOST_KINDS", 4), ("MOST_LIMIT", 999), ("MOST_RATE", 9), ("MOST_HOLD", 9)], ["all", "bool", "int", "isinstance", "len", "list", "max", "min", "range", "repr", "sorted", "tuple"], [(0, "is_whole", 1), (1, "is_within", 3), (2, "is_kind", 1), (3, "are_apart", 2), (4, "is_house", 1), (5, "_law_cell_at", 2), (6, "_law_pot", 1), (7, "_law_take", 2), (8, "_law_whole", 1), (9, "_law_within", 3), (10, "_law_odd", 1), (11, "_law_bent", 2), (12, "_law_kind_of", 1), (13, "_law_house", 1), (14, "_law_is_kind", 1), (15, "_law_is_house", 1), (16, "_law_near_bounds", 2), (17, "law", 1)], []⟩
theorem ok_is_whole : fd_is_whole.ok T = true := by decide +kernel
theorem ok_is_within : fd_is_within.ok T = true := by decide +kernel
theorem ok_is_kind : fd_is_kind.ok T = true := by decide +kernel
theorem ok_are_apart : fd_are_apart.ok T = true := by decide +kernel
theorem ok_is_house : fd_is_house.ok T = true := by decide +kernel
theorem ok__law_cell_at : fd__law_cell_at.ok T = true := by decide +kernel
theorem ok__law_pot : fd__law_pot.ok T = true := by decide +kernel
theorem ok__law_take : fd__law_take.ok T = true := by decide +kernel
theorem ok__law_whole : fd__law_whole.ok T = true := by decide +kernel
theorem ok__law_within : fd__law_within.ok T = true := by decide +kernel
theorem ok__law_odd : fd__law_odd.ok T = true := by decide +kernel
theorem ok__law_bent : fd__law_bent.ok T = true := by decide +kernel
theorem ok__law_kind_of : fd__law_kind_of.ok T = true := by decide +kernel
theorem ok__law_house : fd__law_house.ok T = true := by decide +kernel
theorem ok__law_is_kind : fd__law_is_kind.ok T = true := by decide +kernel
theorem ok__law_is_house : fd__law_is_house.ok T = true := by decide +kernel
theorem ok__law_near_bounds : fd__law_near_bounds.ok T = true := by decide +kernel
theorem ok_law : fd_law.ok T = true := by decide +kernel
abbrev fa : List He.Fa := faOf T
abbrev R : PySem.W.OpenRow := PySem.W.OpenLaw.row PySem.Challenge.rw_rimehold_k01_houses_looked_at
abbrev hk : PySem.W.Hook := He.hookD 4 fa fn
def ob (s : PySem.W.SharedT) : He.AlD := He.obsDG 4 fa fn (HandSHeadRun.getT s)
theorem ob_eq (s : PySem.W.SharedT) : ob s = hk.obs s.abs := He.obsDG_eq (HandSHeadRun.getT_eq s)
def loose0 : List PySem.Str := ["MOST_ROOMS", "MOST_COLD", "MOST_KINDS", "MOST_LIMIT", "MOST_RATE", "MOST_HOLD", "is_whole", "is_within", "is_kind", "are_apart", "is_house", "_law_cell_at", "_law_pot", "_law_take", "_law_whole", "_law_within", "_law_odd", "_law_bent", "_law_kind_of", "_law_house", "_law_is_kind", "_law_is_house", "_law_near_bounds"]
def loose : List PySem.Str := loose0
theorem run (w : World) : HandSHeadRun.RunEq R (PySem.W.view R.prog [25]) hk ob 4000 loose w := by
  intro os
  kernel_rfl
section
variable {K : PySem.W.Frag} (c : He.SaysD fa fn K)
include c
theorem pf_is_whole : Pf T K DEFS (0, "is_whole", 1) := by
  obtain ⟨fd, F⟩ := c.def_ 0 (d := dd_is_whole) rfl
  exact ⟨fd_is_whole, fd, ok_is_whole, rfl, rfl, F, FunD.bindsN (ps := fd_is_whole.ps) F fun _ _ _ _ _ _ us hl => match us, hl with | [_], _ => rfl⟩
theorem pf_is_within : Pf T K DEFS (1, "is_within", 3) := by
  obtain ⟨fd, F⟩ := c.def_ 1 (d := dd_is_within) rfl
  exact ⟨fd_is_within, fd, ok_is_within, rfl, rfl, F, FunD.bindsN (ps := fd_is_within.ps) F fun _ _ _ _ _ _ us hl => match us, hl with | [_, _, _], _ => rfl⟩
theorem pf_is_kind : Pf T K DEFS (2, "is_kind", 1) := by
  obtain ⟨fd, F⟩ := c.def_ 2 (d := dd_is_kind) rfl
  exact ⟨fd_is_kind, fd, ok_is_kind, rfl, rfl, F, FunD.bindsN (ps := fd_is_kind.ps) F fun _ _ _ _ _ _ us hl => match us, hl with | [_], _ => rfl⟩
theorem pf_are_apart : Pf T K DEFS (3, "are_apart", 2) := by
  obtain ⟨fd, F⟩ := c.def_ 3 (d := dd_are_apart) rfl
  exact ⟨fd_are_apart, fd, ok_are_apart, rfl, rfl, F, FunD.bindsN (ps := fd_are_apart.ps) F fun _ _ _ _ _ _ us hl => match us, hl with | [_, _], _ => rfl⟩
theorem pf_is_house : Pf T K DEFS (4, "is_house", 1) := by
  obtain ⟨fd, F⟩ := c.def_ 4 (d := dd_is_house) rfl
  exact ⟨fd_is_house, fd, ok_is_house, rfl, rfl, F, FunD.bindsN (ps := fd_is_house.ps) F fun _ _ _ _ _ _ us hl => match us, hl with | [_], _ => rfl⟩
theorem pf__law_cell_at : Pf T K DEFS (5, "_law_cell_at", 2) := by
  obtain ⟨fd, F⟩ := c.def_ 5 (d := dd__law_cell_at) rfl
  exact ⟨fd__law_cell_at, fd, ok__law_cell_at, rfl, rfl, F, FunD.bindsN (ps := fd__law_cell_at.ps) F fun _ _ _ _ _ _ us hl => match us, hl with | [_, _], _ => rfl⟩
theorem pf__law_pot : Pf T K DEFS (6, "_law_pot", 1) := by
  obtain ⟨fd, F⟩ := c.def_ 6 (d := dd__law_pot) rfl
  exact ⟨fd__law_pot, fd, ok__law_pot, rfl, rfl, F, FunD.bindsN (ps := fd__law_pot.ps) F fun _ _ _ _ _ _ us hl => match us, hl with | [_], _ => rfl⟩
theorem pf__law_take : Pf T K DEFS (7, "_law_take", 2) := by
  obtain ⟨fd, F⟩ := c.def_ 7 (d := dd__law_take) rfl
  exact ⟨fd__law_take, fd, ok__law_take, rfl, rfl, F, FunD.bindsN (ps := fd__law_take.ps) F fun _ _ _ _ _ _ us hl => match us, hl with | [_, _], _ => rfl⟩
theorem pf__law_whole : Pf T K DEFS (8, "_law_whole", 1) := by
  obtain ⟨fd, F⟩ := c.def_ 8 (d := dd__law_whole) rfl
  exact ⟨fd__law_whole, fd, ok__law_whole, rfl, rfl, F, FunD.bindsN (ps := fd__law_whole.ps) F fun _ _ _ _ _ _ us hl => match us, hl with | [_], _ => rfl⟩
theorem pf__law_within : Pf T K DEFS (9, "_law_within", 3) := by
  obtain ⟨fd, F⟩ := c.def_ 9 (d := dd__law_within) rfl
  exact ⟨fd__law_within, fd, ok__law_within, rfl, rfl, F, FunD.bindsN (ps := fd__law_within.ps) F fun _ _ _ _ _ _ us hl => match us, hl with | [_, _, _], _ => rfl⟩
theorem pf__law_odd : Pf T K DEFS (10, "_law_odd", 1) := by
  obtain ⟨fd, F⟩ := c.def_ 10 (d := dd__law_odd) rfl
  exact ⟨fd__law_odd, fd, ok__law_odd, rfl, rfl, F, FunD.bindsN (ps := fd__law_odd.ps) F fun _ _ _ _ _ _ us hl => match us, hl with | [_], _ => rfl⟩
theorem pf__law_bent : Pf T K DEFS (11, "_law_bent", 2) := by
  obtain ⟨fd, F⟩ := c.def_ 11 (d := dd__law_bent) rfl
  exact ⟨fd__law_bent, fd, ok__law_bent, rfl, rfl, F, FunD.bindsN (ps := fd__law_bent.ps) F fun _ _ _ _ _ _ us hl => match us, hl with | [_, _], _ => rfl⟩
theorem pf__law_kind_of : Pf T K DEFS (12, "_law_kind_of", 1) := by
  obtain ⟨fd, F⟩ := c.def_ 12 (d := dd__law_kind_of) rfl
  exact ⟨fd__law_kind_of, fd, ok__law_kind_of, rfl, rfl, F, FunD.bindsN (ps := fd__law_kind_of.ps) F fun _ _ _ _ _ _ us hl => match us, hl with | [_], _ => rfl⟩
theorem pf__law_house : Pf T K DEFS (13, "_law_house", 1) := by
  obtain ⟨fd, F⟩ := c.def_ 13 (d := dd__law_house) rfl
  exact ⟨fd__law_house, fd, ok__law_house, rfl, rfl, F, FunD.bindsN (ps := fd__law_house.ps) F fun _ _ _ _ _ _ us hl => match us, hl with | [_], _ => rfl⟩
theorem pf__law_is_kind : Pf T K DEFS (14, "_law_is_kind", 1) := by
  obtain ⟨fd, F⟩ := c.def_ 14 (d := dd__law_is_kind) rfl
  exact ⟨fd__law_is_kind, fd, ok__law_is_kind, rfl, rfl, F, FunD.bindsN (ps := fd__law_is_kind.ps) F fun _ _ _ _ _ _ us hl => match us, hl with | [_], _ => rfl⟩
theorem pf__law_is_house : Pf T K DEFS (15, "_law_is_house", 1) := by
  obtain ⟨fd, F⟩ := c.def_ 15 (d := dd__law_is_house) rfl
  exact ⟨fd__law_is_house, fd, ok__law_is_house, rfl, rfl, F, FunD.bindsN (ps := fd__law_is_house.ps) F fun _ _ _ _ _ _ us hl => match us, hl with | [_], _ => rfl⟩
theorem pf__law_near_bounds : Pf T K DEFS (16, "_law_near_bounds", 2) := by
  obtain ⟨fd, F⟩ := c.def_ 16 (d := dd__law_near_bounds) rfl
  exact ⟨fd__law_near_bounds, fd, ok__law_near_bounds, rfl, rfl, F, FunD.bindsN (ps := fd__law_near_bounds.ps) F fun _ _ _ _ _ _ us hl => match us, hl with | [_, _], _ => rfl⟩
theorem pf_law : Pf T K DEFS (17, "law", 1) := by
  obtain ⟨fd, F⟩ := c.def_ 17 (d := dd_law) rfl
  exact ⟨fd_law, fd, ok_law, rfl, rfl, F, FunD.bindsN (ps := fd_law.ps) F fun _ _ _ _ _ _ us hl => match us, hl with | [_], _ => rfl⟩
end
theorem prog {K : PySem.W.Frag} {h : Heap} {mg : Str → Option Value} (X : K.In h) (G : h.Ns mainGlobals mg) (c : He.SaysD fa fn K) : Prog ⟨K, mg, fun _ => 0⟩ T DEFS :=
  prog_of X G c (List.forall_mem_cons.mpr ⟨pf_is_whole c, List.forall_mem_cons.mpr ⟨pf_is_within c, List.forall_mem_cons.mpr ⟨pf_is_kind c, List.forall_mem_cons.mpr ⟨pf_are_apart c, List.forall_mem_cons.mpr ⟨pf_is_house c, List.forall_mem_cons.mpr ⟨pf__law_cell_at c, List.forall_mem_cons.mpr ⟨pf__law_pot c, List.forall_mem_cons.mpr ⟨pf__law_take c, List.forall_mem_cons.mpr ⟨pf__law_whole c, List.forall_mem_cons.mpr ⟨pf__law_within c, List.forall_mem_cons.mpr ⟨pf__law_odd c, List.forall_mem_cons.mpr ⟨pf__law_bent c, List.forall_mem_cons.mpr ⟨pf__law_kind_of c, List.forall_mem_cons.mpr ⟨pf__law_house c, List.forall_mem_cons.mpr ⟨pf__law_is_kind c, List.forall_mem_cons.mpr ⟨pf__law_is_house c, List.forall_mem_cons.mpr ⟨pf__law_near_bounds c, List.forall_mem_cons.mpr ⟨pf_law c, fun _ h => nomatch h⟩⟩⟩⟩⟩⟩⟩⟩⟩⟩⟩⟩⟩⟩⟩⟩⟩⟩)
end MPL

open PySem PySem.W PySem.Calls PyProof.Rows in
theorem PySem.Challenge.cw_rimehold_k01_houses_looked_at_holds : PySem.Challenge.rw_rimehold_k01_houses_looked_at.Holds := by
  w_on; o_law
  refine HandSHeadRun.head_any (r := MPL.R) (q := view MPL.R.prog [25]) (H := MPL.hk) (ob := MPL.ob) (M := 4000) (loose := MPL.loose) (d := HandSHeadRun.topDef MPL.R.prog 25) (kwd := []) MPL.ob_eq
    (by kernel_rfl) (fun s => by kernel_rfl) MPL.run (by kernel_rfl) (by kernel_rfl) (by kernel_rfl) (by rfl) (by first | assumption | decide +kernel) (by decide +kernel) ⟨rfl, rfl, rfl, rfl, rfl, by decide +kernel⟩ ?hw ?hc
  case hw => w_witness2
  case hc =>
    have hf : MPL.T.funs.lookup 17 = some ((HandSHeadRun.topDef MPL.R.prog 25).name, 1) := by
      have e : (HandSHeadRun.topDef MPL.R.prog 25).name = ("law" : PySem.Str) := by kernel_rfl
      rw [e]; rfl
    refine MP.walkG (l := PySem.Challenge.rw_rimehold_k01_houses_looked_at) (n := 63) (k := MPL.kk) (W := MP.WW) (fl := 17) rfl (by decide) (by kernel_rfl) ⟨rfl, by decide, by decide⟩ (by decide +kernel) hf (fun w mg h Y G => ?_) MPL.law_ok
    obtain ⟨K, KX, c⟩ := Y
    exact ⟨⟨K, mg, fun _ => 0⟩, rfl, KX, MPL.prog KX G c⟩
