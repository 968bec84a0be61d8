import PyProof.Rows.All
import HandS.ForMost
import HandS.ForExc
import HandS.Style
import HandS.Conv
import HandS.IsInst
import HandS.Zip
import KE.DataEq
import KE.DataCmp
import KE.DataAny
import KE.DataMinMax
import KE.DataFind
import KE.DataIsa
import KE.SortData
import KE.KDictKeyed
import KE.KeyNested
import HandS.TupAny
import PyProof.SumAny
import HandS.CallSlots
import HandS.ExcIs
import HandS.TupSets
import HandS.Strs
import HandS.SetFor
import PyProof.ListRange
import PyProof.RangeFor
import PyProof.MaxThree
import HandS.ExcValue
import HandS.Defaults
import HandS.Head0
import HandS.Head1
import HandS.Head2
import HandS.HeadEnd
import HandS.HeadHook1
import HandS.HeadHook2
import PySem.Challenge.RW_crosssums_k16_examples
import Wide.All
import OpenK.AllK
import Wide.FinOn
import KE.KStateDown
import Lean
section
set_option Elab.async false
set_option linter.all false
set_option maxRecDepth 100000
set_option maxHeartbeats 4000000
/-! MP: a small interpreter over plain data. -/
namespace MP
open PySem

abbrev D := PyData
abbrev rf (n : Nat) : D := .dict [(.int (Int.ofNat n), .none)]
abbrev scr (ds : List D) : D := .dict [(.list ds, .none)]
abbrev xcv (n : Nat) : D := .dict [(.none, .int (Int.ofNat n))]
def asRef : D → Option Nat
  | .dict [(.int (.ofNat n), .none)] => some n
  | _ => none
inductive Ob where
  | lst (xs : List D)
  | lck (xs : List D)
  | dct (kvs : List (D × D))
  | ins (c : Nat) (fs : List (Nat × D))
  | dead
abbrev Store := List Ob
abbrev Env := List (Option D)
inductive Res (α : Type) where
  | ok (a : α) (S : Store)
  | exc (c : Nat) (S : Store)
  | bad
def Res.bind {α β : Type} : Res α → (α → Store → Res β) → Res β
  | .ok a S, f => f a S
  | .exc c S, _ => .exc c S
  | .bad, _ => .bad

inductive Bop where | add | sub | mul | fdiv | mod | pow
inductive Cop where | eq | ne | lt | le | gt | ge | isin | notin | is | isnot
inductive Prim where
  | len | sum | all | any | min | max | sorted | list | tuple | str | int | lenset | sortset | isint | isbool | islist | istuple | isstr | lrange | trange
inductive Meth where | append | remove | count | index | pop | join | split
mutual
inductive Tg where
  | nm (i : Nat)
  | tp (ts : Tgs)
inductive Tgs where
  | nil
  | cons (t : Tg) (ts : Tgs)
end
mutual
inductive E where
  | var (i : Nat)
  | int (i : Int)
  | bl (b : Bool)
  | non
  | str (s : Str)
  | glob (g : Nat)
  | bin (o : Bop) (a b : E)
  | neg (a : E)
  | nt (a : E)
  | and (a b : E)
  | or (a b : E)
  | ite (c a b : E)
  | cmp (o : Cop) (a b : E)
  | chain (o p : Cop) (a b c : E)
  | tup (es : Es)
  | lst (es : Es)
  | ix (a i : E)
  | slc (a : E) (lo hi : Oe)
  | rev (a : E)
  | dct
  | call (f : Nat) (es : Es)
  | prim (p : Prim) (es : Es)
  | meth (m : Meth) (o : E) (es : Es)
  | attr (o : E) (f : Nat)
  | comp (elt : E) (tg : Tg) (it : Itr) (cond : Oe) (own : List Nat)
  | mt (e : E)
  | fz (e : E)
  | umeth (f : Nat) (o : E) (es : Es)
  | mk (c f : Nat) (es : Es)
  | ulen (f : Nat) (o : E)
  | isi (c : Nat) (e : E)
inductive Es where
  | nil
  | cons (e : E) (es : Es)
inductive Oe where
  | none
  | some (e : E)
inductive Itr where
  | of (e : E)
  | rng (a b : E)
  | rng1 (a : E)
  | enum (a : E)
  | zip (a b : E)
end
mutual
inductive S where
  | asg (tg : Tg) (e : E)
  | par (ts : List Nat) (es : Es)
  | aset (o i e : E)
  | aattr (o : E) (f : Nat) (e : E)
  | aug (i : Nat) (o : Bop) (e : E)
  | augix (o i : E) (p : Bop) (e : E)
  | exp (e : E)
  | ret (e : E)
  | pass
  | brk
  | ite (c : E) (a b : Ss)
  | for_ (tg : Tg) (it : Itr) (body : Ss)
  | whil (c : E) (body : Ss)
  | raise (c : Nat)
  | tri (body : S) (i j : Nat)
  | frz (i : Nat)
inductive Ss where
  | nil
  | cons (s : S) (ss : Ss)
end

/-! ### views -/
def viewR (S : Store) (d : D) : Option (List D) :=
  match asRef d with
  | some n => (match S[n]? with
    | some (.lst xs) => some xs
    | some (.lck xs) => some xs
    | _ => none)
  | none => none
def viewL (S : Store) : D → Option (List D)
  | .list xs => some xs
  | d => viewR S d
def viewS (S : Store) : D → Option (List D)
  | .tuple xs => some xs
  | .list xs => some xs
  | d => viewR S d

def mapO {α β : Type} (f : α → Option β) : List α → Option (List β)
  | [] => some []
  | x :: xs => match f x with
    | some y => (match mapO f xs with
      | some ys => some (y :: ys)
      | none => none)
    | none => none
def resolve (S : Store) : Nat → D → Option D
  | 0, _ => none
  | n + 1, d => match d with
    | .none => some .none
    | .bool b => some (.bool b)
    | .int i => some (.int i)
    | .str s => some (.str s)
    | .list xs => (mapO (resolve S n) xs).map .list
    | .tuple xs => (mapO (resolve S n) xs).map .tuple
    | .dict kvs => match viewR S (.dict kvs) with
      | some xs => (mapO (resolve S n) xs).map .list
      | none => none
def big : Nat := 16777216
def rz (S : Store) (d : D) : Option D := resolve S 8 d
def okI (c : Bool) (d : D) (S : Store) : Res D := if c then .ok d S else .bad

/-! ### operators -/
def addD (S : Store) (a b : D) : Res D :=
  match viewL S a, viewL S b with
  | some xs, some ys => okI (decide (xs.length + ys.length ≤ big)) (.list (xs ++ ys)) S
  | _, _ => match a, b with
    | .int i, .int j => .ok (.int (i + j)) S
    | .tuple xs, .tuple ys => okI (decide (xs.length + ys.length ≤ big)) (.tuple (xs ++ ys)) S
    | .str x, .str y => okI (decide (x.length + y.length ≤ big)) (.str (x ++ y)) S
    | _, _ => .bad
def small (i : Int) : Bool := decide (-(2 ^ 64) < i) && decide (i < 2 ^ 64)
def repL (xs : List D) : Nat → List D
  | 0 => []
  | n + 1 => xs ++ repL xs n
def mulD (S : Store) (a b : D) : Res D :=
  match a, b with
  | .int i, .int j => okI (small i || small j) (.int (i * j)) S
  | a, .int k => match viewL S a with
    | some xs => okI (decide (-(2 ^ 63) ≤ k) && decide (k < 2 ^ 63) && decide (xs.length * k.toNat ≤ big)) (.list (repL xs k.toNat)) S
    | none => .bad
  | _, _ => .bad
def binD (S : Store) : Bop → D → D → Res D
  | .add, a, b => addD S a b
  | .sub, .int i, .int j => .ok (.int (i - j)) S
  | .mul, a, b => mulD S a b
  | .fdiv, .int i, .int j => okI (decide (0 < j) && decide (j < 1073741824)) (.int (i / j)) S
  | .mod, .int i, .int j => okI (decide (0 < j)) (.int (i % j)) S
  | .pow, .int i, .int j => okI (decide (0 ≤ j) && decide (j ≤ 1000000) && decide (i.natAbs < 2 ^ 64)) (.int (i ^ j.toNat)) S
  | _, _, _ => .bad
def bl (b : Bool) (S : Store) : Res D := .ok (.bool b) S
mutual
def keyOf : D → Option NestedKey
  | .none => some .none
  | .int i => some (.num i)
  | .str x => some (.text x)
  | .tuple xs => (keyOfs xs).map .tup
  | _ => none
def keyOfs : List D → Option (List NestedKey)
  | [] => some []
  | x :: xs => match keyOf x with
    | some k => (match keyOfs xs with
      | some ks => some (k :: ks)
      | none => none)
    | none => none
end
def isTup : D → Bool
  | .tuple _ => true
  | _ => false
def keyOk (d : D) : Bool := isTup d && (keyOf d).isSome && decide (d.depth ≤ 8)
def find (kvs : List (D × D)) (k : D) : Option D :=
  match kvs with
  | [] => none
  | (k', v) :: r => if PyData.eqv k' k then some v else find r k
def inD (S : Store) (a b : D) : Option Bool :=
  match b with
  | .str t => (match a with
    | .str z => (match z.cps.toList with
      | [ch] => some (decide (ch ∈ t.cps.toList))
      | _ => none)
    | _ => none)
  | b => match rz S b with
    | some (.list ys) => (rz S a).map fun x => ys.any fun y => PyData.eqv y x
    | some (.tuple ys) => (rz S a).map fun x => ys.any fun y => PyData.eqv y x
    | _ => (match asRef b with
      | some n => (match S[n]? with
        | some (.dct kvs) => if keyOk a then some (find kvs a).isSome else none
        | _ => none)
      | none => none)
def isD (a b : D) : Option Bool :=
  match b with
  | .none => some (match a with
    | .none => true
    | _ => false)
  | .bool k => (match a with
    | .bool j => some (decide (j = k))
    | _ => none)
  | _ => none
def isSeq : D → Bool
  | .list _ => true
  | .tuple _ => true
  | _ => false
def ltD (S : Store) (a b : D) : Option Bool :=
  match a, b with
  | .int i, .int j => some (decide (i < j))
  | a, b => match rz S a, rz S b with
    | some x, some y => if W.alike x y && isSeq x then some (W.dataLt x y) else none
    | _, _ => none
def eqD (S : Store) (a b : D) : Option Bool :=
  match rz S a, rz S b with
  | some x, some y => some (PyData.eqv x y)
  | _, _ => none
def eqX (S : Store) (a b : D) : Option Bool :=
  match a with
  | .dict [(.list ds, .none)] => (match mapO (rz S) ds, b with
    | some _, .list [] => some ds.isEmpty
    | _, _ => none)
  | a => eqD S a b
def cmpD (S : Store) (o : Cop) (a b : D) : Option Bool :=
  match o with
  | .eq => eqX S a b
  | .ne => (eqX S a b).map not
  | .lt => ltD S a b
  | .gt => ltD S b a
  | .le => (match a, b with
    | .int i, .int j => some (decide (i ≤ j))
    | _, _ => none)
  | .ge => (match a, b with
    | .int i, .int j => some (decide (j ≤ i))
    | _, _ => none)
  | .isin => inD S a b
  | .notin => (inD S a b).map not
  | .is => isD a b
  | .isnot => (isD a b).map not
def ofO {α : Type} (x : Option α) (S : Store) : Res α :=
  match x with
  | some a => .ok a S
  | none => .bad
def cmpR (S : Store) (o : Cop) (a b : D) : Res D := ofO ((cmpD S o a b).map .bool) S

/-! ### subscripts -/
def ixD (S : Store) (a i : D) : Res D :=
  match viewS S a, i with
  | some xs, .int k => ofO (L2.atI xs k) S
  | some _, _ => .bad
  | none, i => (match asRef a with
    | some n => (match S[n]? with
      | some (.dct kvs) => if keyOk i then ofO (find kvs i) S else .bad
      | _ => .bad)
    | none => .bad)
def cut (xs : List D) (lo hi : Option Int) : List D := (xs.drop (HT.sIx xs.length 0 lo)).take (HT.sIx xs.length xs.length hi - HT.sIx xs.length 0 lo)
def slcD (S : Store) (a : D) (lo hi : Option Int) : Res D :=
  match a with
  | .tuple xs => .ok (.tuple (cut xs lo hi)) S
  | .str z => okI (decide (z.length ≤ big)) (.str (L2.cutS z lo hi)) S
  | a => match viewL S a with
    | some xs => .ok (.list (cut xs lo hi)) S
    | none => .bad
def revD (S : Store) (a : D) : Res D :=
  match viewL S a with
  | some xs => .ok (.list xs.reverse) S
  | none => .bad

/-! ### built-ins -/
def asInt : D → Option Int
  | .int i => some i
  | _ => none
def truA : D → Option Bool
  | .none => some false
  | .bool b => some b
  | .int i => some (i != 0)
  | _ => none
def minL (x : Int) : List Int → Int
  | [] => x
  | y :: ys => minL (if y < x then y else x) ys
def maxL (x : Int) : List Int → Int
  | [] => x
  | y :: ys => maxL (if x < y then y else x) ys
def pure8 (d : D) : Bool := d.plain && decide (d.depth ≤ 8)
def isTup1 : D → Bool
  | .tuple (_ :: _) => true
  | _ => false
def isPl : D → Bool
  | .none => false
  | .tuple _ => false
  | _ => true
def sortable (xs : List D) : Bool := xs.all pure8 && xs.all (fun x => xs.all fun y => W.alike x y) && (xs.all isTup1 || xs.all isPl)
def insD (x : D) : List D → List D
  | [] => [x]
  | y :: ys => if W.dataLt y x then y :: insD x ys else x :: y :: ys
def sortD : List D → List D
  | [] => []
  | x :: xs => insD x (sortD xs)
def dedupI {α : Type} [DecidableEq α] : List α → List α
  | [] => []
  | x :: xs => if x ∈ xs then dedupI xs else x :: dedupI xs
def insI (x : Int) : List Int → List Int
  | [] => [x]
  | y :: ys => if y < x then y :: insI x ys else x :: y :: ys
def sortI : List Int → List Int
  | [] => []
  | x :: xs => insI x (sortI xs)
def asIntT : D → Option (List Int)
  | .tuple ds => mapO asInt ds
  | _ => none
def listOf (S : Store) (d : D) : Option (List D) :=
  match d with
  | .dict [(.list ds, .none)] => some ds
  | d => viewS S d
def rangeL (i : Int) : Nat → List D
  | 0 => []
  | n + 1 => .int i :: rangeL (i + 1) n
def inR (i : Int) : Bool := decide (-(2 ^ 62) ≤ i) && decide (i < 2 ^ 62)
def primD (S : Store) (p : Prim) (as : List D) : Res D :=
  match p, as with
  | .len, [.str z] => okI (decide (z.length ≤ big)) (.int z.length) S
  | .len, [a] => ofO ((viewS S a).map fun xs => .int xs.length) S
  | .sum, [a] => ofO (((viewS S a).bind (mapO asInt)).map fun ns => .int ns.sum) S
  | .all, [a] => ofO (((viewS S a).bind (mapO truA)).map fun bs => .bool (bs.all id)) S
  | .any, [a] => ofO (((viewS S a).bind (mapO truA)).map fun bs => .bool (bs.any id)) S
  | .min, [a] => (match (viewL S a).bind (mapO asInt) with
    | some (n :: ns) => .ok (.int (minL n ns)) S
    | _ => .bad)
  | .max, [a] => (match (viewL S a).bind (mapO asInt) with
    | some (n :: ns) => .ok (.int (maxL n ns)) S
    | _ => .bad)
  | .min, [.int i, .int j] => .ok (.int (if j < i then j else i)) S
  | .max, [.int i, .int j] => .ok (.int (if j > i then j else i)) S
  | .min, [.int i, .int j, .int k] => .ok (.int (minL i [j, k])) S
  | .sorted, [a] => (match viewL S a with
    | some xs => okI (sortable xs && decide (xs.length ≤ big)) (.list (sortD xs)) S
    | none => .bad)
  | .list, [a] => ofO ((listOf S a).map .list) S
  | .tuple, [a] => ofO ((viewS S a).map .tuple) S
  | .str, [.int i] => okI (decide (i.natAbs.log2 < 1920)) (.str (toString i)) S
  | .int, [.str z] => (match intText? z with
    | some n => okI (decide (z.length ≤ 640)) (.int n) S
    | none => .bad)
  | .lenset, [a] => (match (viewL S a).bind (mapO asIntT) with
    | some ks => okI (decide (ks.length < 64)) (.int (dedupI ks).length) S
    | none => .bad)
  | .sortset, [a] => (match (viewL S a).bind (mapO asInt) with
    | some ns => okI (decide (ns.length < 64)) (.list ((sortI (dedupI ns)).map .int)) S
    | none => .bad)
  | .isint, [a] => ofO ((rz S a).map fun x => .bool x.isInt) S
  | .isbool, [a] => ofO ((rz S a).map fun x => .bool x.isBool) S
  | .islist, [a] => ofO ((rz S a).map fun x => .bool x.isList) S
  | .istuple, [a] => ofO ((rz S a).map fun x => .bool x.isTuple) S
  | .isstr, [a] => ofO ((rz S a).map fun x => .bool x.isStr) S
  | .lrange, [.int j] => okI (inR j && decide (j.toNat ≤ big)) (.list (rangeL 0 j.toNat)) S
  | .trange, [.int j] => okI (inR j && decide (j.toNat ≤ big)) (.tuple (rangeL 0 j.toNat)) S
  | .lrange, [.int i, .int j] => okI (inR i && inR j && decide ((j - i).toNat ≤ big)) (.list (rangeL i (j - i).toNat)) S
  | .trange, [.int i, .int j] => okI (inR i && inR j && decide ((j - i).toNat ≤ big)) (.tuple (rangeL i (j - i).toNat)) S
  | _, _ => .bad

/-! ### methods -/
def strOf : D → Option Str
  | .str z => some z
  | _ => none
def isStrM : Meth → Bool
  | .join => true
  | .split => true
  | _ => false
def rcv (S : Store) (m : Meth) (x : D) : Bool := if isStrM m then (strOf x).isSome else (viewL S x).isSome
def methD (S : Store) (m : Meth) (o : D) (as : List D) : Res D :=
  match m, as with
  | .append, [x] => (match asRef o with
    | some n => (match S[n]? with
      | some (.lst xs) => if xs.length < big then .ok .none (S.set n (.lst (xs ++ [x]))) else .bad
      | _ => .bad)
    | none => .bad)
  | .remove, [x] => (match asRef o with
    | some n => (match S[n]? with
      | some (.lst xs) => if xs.all pure8 && pure8 x then (match SeqAt.dataPlace xs x with
          | some j => .ok .none (S.set n (.lst (xs.eraseIdx j)))
          | none => .bad) else .bad
      | _ => .bad)
    | none => .bad)
  | .pop, [] => (match asRef o with
    | some n => (match S[n]? with
      | some (.lst xs) => (match xs.getLast? with
        | some x => .ok x (S.set n (.lst xs.dropLast))
        | none => .bad)
      | _ => .bad)
    | none => .bad)
  | .count, [x] => (match viewL S o with
    | some xs => okI (xs.all pure8 && pure8 x) (.int (xs.countP fun y => PyData.eqv y x)) S
    | none => .bad)
  | .index, [x] => (match viewL S o with
    | some xs => if xs.all pure8 && pure8 x then (match SeqAt.dataPlace xs x with
        | some j => .ok (.int j) S
        | none => .bad) else .bad
    | none => .bad)
  | .join, [a] => (match strOf o, (viewL S a).bind (mapO strOf) with
    | some z, some zs => okI (decide ((zs.map (·.length)).sum + z.length * zs.length ≤ big)) (.str (Txt.join z zs)) S
    | _, _ => .bad)
  | .split, [a] => (match o, a with
    | .str x, .str y => okI (decide (0 < y.length) && decide (x.length + 2 ≤ big)) (.list ((Txt.split x y).map .str)) S
    | _, _ => .bad)
  | _, _ => .bad

/-! ### names -/
mutual
def bindTg : Tg → D → Env → Option Env
  | .nm i, d, r => some (r.set i (some d))
  | .tp ts, .tuple xs, r => bindTgs ts xs r
  | .tp _, _, _ => none
def bindTgs : Tgs → List D → Env → Option Env
  | .nil, [], r => some r
  | .cons t ts, x :: xs, r => (match bindTg t x r with
    | some r' => bindTgs ts xs r'
    | none => none)
  | _, _, _ => none
end
def wipe (r : Env) : List Nat → Env
  | [] => r
  | v :: vs => (wipe r vs).set v none
def getV (r : Env) (i : Nat) : Option D :=
  match r[i]? with
  | some (some d) => some d
  | _ => none
def mapFz (f : D → Store → Option (D × Store)) : List D → Store → Option (List D × Store)
  | [], S => some ([], S)
  | x :: xs, S => match f x S with
    | some (y, S1) => (match mapFz f xs S1 with
      | some (ys, S2) => some (y :: ys, S2)
      | none => none)
    | none => none
def freeze : Nat → D → Store → Option (D × Store)
  | 0, _, _ => none
  | k + 1, d, S => match asRef d with
    | none => some (d, S)
    | some n => match S[n]? with
      | some (.lst xs) => (match mapFz (freeze k) xs (S.set n .dead) with
        | some (ys, S1) => some (.list ys, S1)
        | none => none)
      | _ => none
abbrev Call := Nat → List D → Store → Res D
/-! the loop of a comprehension -/
def compL (f : D → Store → Res (Option D)) : List D → List D → Store → Res D
  | [], acc, S => .ok (.list acc) S
  | x :: xs, acc, S => match f x S with
    | .ok (some d) S' => if acc.length < big then compL f xs (acc ++ [d]) S' else .bad
    | .ok none S' => compL f xs acc S'
    | _ => .bad
def lock (S : Store) (d : D) : Store :=
  match asRef d with
  | some n => (match S[n]? with
    | some (.lst xs) => S.set n (.lck xs)
    | _ => S)
  | none => S
def unlock (S0 S : Store) (d : D) : Store :=
  match asRef d with
  | some n => (match S0[n]?, S[n]? with
    | some (.lst _), some (.lck xs) => S.set n (.lst xs)
    | _, _ => S)
  | none => S
def Res.mapS {α : Type} (f : Store → Store) : Res α → Res α
  | .ok a S => .ok a (f S)
  | .exc c S => .exc c (f S)
  | .bad => .bad
def enumL (i : Int) : List D → List D
  | [] => []
  | x :: xs => .tuple [.int i, x] :: enumL (i + 1) xs
def zipL : List D → List D → List D
  | x :: xs, y :: ys => .tuple [x, y] :: zipL xs ys
  | _, _ => []
def optI : Option D → Option (Option Int)
  | none => some none
  | some (.int i) => some (some i)
  | some _ => none
def tru (d : D) : Option Bool :=
  match d with
  | .bool b => some b
  | _ => none
/-- the classes of exceptions: 0 is the base of all, 100 the built-in one -/
def subX (n y : Nat) : Bool := decide (y = n) || decide (y = 0) || decide (y = 100)
def asXc : D → Option Nat
  | .dict [(.none, .int (.ofNat n))] => some n
  | _ => none
def isIns (S : Store) (d : D) : Bool :=
  match asRef d with
  | some n => (match S[n]? with
    | some (.ins _ _) => true
    | _ => false)
  | none => false
def attrD (S : Store) (d : D) (f : Nat) : Option D :=
  match asRef d with
  | some n => (match S[n]? with
    | some (.ins _ fs) => fs.lookup f
    | _ => none)
  | none => none
variable (G : Nat → Option D) (C : Call)
mutual
def ev : E → Env → Store → Res D
  | .var i, r, S => ofO (getV r i) S
  | .int i, _, S => .ok (.int i) S
  | .bl b, _, S => .ok (.bool b) S
  | .non, _, S => .ok .none S
  | .str z, _, S => .ok (.str z) S
  | .glob g, _, S => ofO (G g) S
  | .bin o a b, r, S => (ev a r S).bind fun x S1 => (ev b r S1).bind fun y S2 => binD S2 o x y
  | .neg a, r, S => (ev a r S).bind fun x S1 => match x with
    | .int i => .ok (.int (-i)) S1
    | _ => .bad
  | .nt a, r, S => (ev a r S).bind fun x S1 => ofO ((tru x).map fun b => .bool (!b)) S1
  | .and a b, r, S => (ev a r S).bind fun x S1 => match tru x with
    | some true => ev b r S1
    | some false => .ok (.bool false) S1
    | none => .bad
  | .or a b, r, S => (ev a r S).bind fun x S1 => match tru x with
    | some true => .ok (.bool true) S1
    | some false => ev b r S1
    | none => .bad
  | .ite c a b, r, S => (ev c r S).bind fun x S1 => match tru x with
    | some true => ev a r S1
    | some false => ev b r S1
    | none => .bad
  | .cmp o a b, r, S => (ev a r S).bind fun x S1 => (ev b r S1).bind fun y S2 => cmpR S2 o x y
  | .chain o p a b c, r, S => (ev a r S).bind fun x S1 => (ev b r S1).bind fun y S2 => (cmpR S2 o x y).bind fun z S3 => match tru z with
    | some true => (ev c r S3).bind fun w S4 => cmpR S4 p y w
    | some false => .ok (.bool false) S3
    | none => .bad
  | .tup es, r, S => (evs es r S).bind fun xs S1 => okI (decide (xs.length ≤ big)) (.tuple xs) S1
  | .lst es, r, S => (evs es r S).bind fun xs S1 => okI (decide (xs.length ≤ big)) (.list xs) S1
  | .ix a i, r, S => (ev a r S).bind fun x S1 => (ev i r S1).bind fun y S2 => ixD S2 x y
  | .slc a lo hi, r, S => (ev a r S).bind fun x S1 => (evo lo r S1).bind fun l S2 => match optI l with
    | none => .bad
    | some l' => (evo hi r S2).bind fun h S3 => match optI h with
      | none => .bad
      | some h' => slcD S3 x l' h'
  | .rev a, r, S => (ev a r S).bind fun x S1 => revD S1 x
  | .dct, _, S => .ok (rf S.length) (S ++ [.dct []])
  | .call f es, r, S => (evs es r S).bind fun xs S1 => C f xs S1
  | .prim p es, r, S => (evs es r S).bind fun xs S1 => primD S1 p xs
  | .meth m o es, r, S => (ev o r S).bind fun x S1 => if rcv S1 m x then (evs es r S1).bind fun xs S2 => methD S2 m x xs else .bad
  | .attr o f, r, S => (ev o r S).bind fun x S1 => ofO (attrD S1 x f) S1
  | .comp elt tg it cond own, r, S => (evj it r S).bind fun d S1 => match viewS S1 d with
    | some items => (compL (fun x S' => match bindTg tg x (wipe r own) with
        | some r' => (evo cond r' S').bind fun c S2 => (match c with
          | none => (ev elt r' S2).bind fun y S3 => .ok (some y) S3
          | some b => (match tru b with
            | some true => (ev elt r' S2).bind fun y S3 => .ok (some y) S3
            | some false => .ok none S2
            | none => .bad))
        | none => .bad) items [] (lock S1 d)).mapS fun S' => unlock S1 S' d
    | none => .bad
  | .mt e, r, S => (ev e r S).bind fun x S1 => match x with
    | .list xs => .ok (rf S1.length) (S1 ++ [.lst xs])
    | _ => .bad
  | .fz e, r, S => (ev e r S).bind fun x S1 => match freeze 4 x S1 with
    | some (y, S2) => .ok y S2
    | none => .bad
  | .umeth f o es, r, S => (ev o r S).bind fun x S1 => if isIns S1 x then (evs es r S1).bind fun xs S2 => C f (x :: xs) S2 else .bad
  | .mk c f es, r, S => (evs es r S).bind fun xs S1 => (C f (rf S1.length :: xs) (S1 ++ [.ins c []])).bind fun d S2 => match d with
    | .none => .ok (rf S1.length) S2
    | _ => .bad
  | .ulen f o, r, S => (ev o r S).bind fun x S1 => if isIns S1 x then (C f [x] S1).bind fun d S2 => (match d with
    | .int n => okI (decide (0 ≤ n) && decide (n < 2 ^ 63)) (.int n) S2
    | _ => .bad) else .bad
  | .isi y e, r, S => (ev e r S).bind fun x S1 => match asXc x with
    | some n => okI (decide (n < 8)) (.bool (subX n y)) S1
    | none => .bad
def evs : Es → Env → Store → Res (List D)
  | .nil, _, S => .ok [] S
  | .cons e es, r, S => (ev e r S).bind fun x S1 => (evs es r S1).bind fun xs S2 => .ok (x :: xs) S2
def evo : Oe → Env → Store → Res (Option D)
  | .none, _, S => .ok none S
  | .some e, r, S => (ev e r S).bind fun x S1 => .ok (some x) S1
def evj : Itr → Env → Store → Res D
  | .of e, r, S => ev e r S
  | .rng a b, r, S => (ev a r S).bind fun x S1 => (ev b r S1).bind fun y S2 => match x, y with
    | .int i, .int j => okI (inR i && inR j) (.list (rangeL i (j - i).toNat)) S2
    | _, _ => .bad
  | .rng1 a, r, S => (ev a r S).bind fun x S1 => match x with
    | .int j => okI (inR j) (.list (rangeL 0 j.toNat)) S1
    | _ => .bad
  | .enum a, r, S => (ev a r S).bind fun x S1 => match x with
    | .list xs => .ok (.list (enumL 0 xs)) S1
    | _ => .bad
  | .zip a b, r, S => (ev a r S).bind fun x S1 => (ev b r S1).bind fun y S2 => match x, y with
    | .list xs, .list ys => .ok (.list (zipL xs ys)) S2
    | .tuple xs, .tuple ys => .ok (.list (zipL xs ys)) S2
    | _, _ => .bad
end

inductive Fl where
  | nx
  | rt (d : D)
  | bk
abbrev SR := Res (Fl × Env)
def setIx (S : Store) (o i d : D) : Option Store :=
  match asRef o with
  | some n => (match S[n]? with
    | some (.lst xs) => (match i with
      | .int k => (L2.ixN xs.length k).map fun j => S.set n (.lst (xs.set j d))
      | _ => none)
    | some (.dct kvs) => if keyOk i && decide (kvs.length < big) then some (S.set n (.dct (putD kvs i d))) else none
    | _ => none)
  | none => none
where
  putD : List (D × D) → D → D → List (D × D)
    | [], k, d => [(k, d)]
    | (k', v) :: r, k, d => if PyData.eqv k' k then (k', d) :: r else (k', v) :: putD r k d
def setAttr (S : Store) (o : D) (f : Nat) (d : D) : Option Store :=
  match asRef o with
  | some n => (match S[n]? with
    | some (.ins c fs) => if fs.length < 1000 then some (S.set n (.ins c (putA fs f d))) else none
    | _ => none)
  | none => none
where
  putA : List (Nat × D) → Nat → D → List (Nat × D)
    | [], f, d => [(f, d)]
    | (g, v) :: r, f, d => if g = f then (g, d) :: r else (g, v) :: putA r f d
def augD (S : Store) (o : Bop) (x y : D) : Res D :=
  match o, x, y with
  | .add, .int i, .int j => .ok (.int (i + j)) S
  | .sub, .int i, .int j => .ok (.int (i - j)) S
  | .add, x, y => (match asRef x with
    | some n => (match S[n]?, viewL S y with
      | some (.lst xs), some ys => if xs.length + ys.length ≤ big then .ok x (S.set n (.lst (xs ++ ys))) else .bad
      | _, _ => .bad)
    | none => .bad)
  | _, _, _ => .bad
def forL (f : D → Env → Store → SR) : List D → Env → Store → SR
  | [], r, S => .ok (.nx, r) S
  | x :: xs, r, S => match f x r S with
    | .ok (.nx, r') S' => forL f xs r' S'
    | .ok (.bk, r') S' => .ok (.nx, r') S'
    | .ok (.rt d, r') S' => .ok (.rt d, r') S'
    | .exc c S' => .exc c S'
    | .bad => .bad
def whileL (c : Env → Store → Res D) (f : Env → Store → SR) : Nat → Env → Store → SR
  | 0, _, _ => .bad
  | n + 1, r, S => (c r S).bind fun d S1 => match tru d with
    | some false => .ok (.nx, r) S1
    | some true => (match f r S1 with
      | .ok (.nx, r') S' => whileL c f n r' S'
      | .ok (.bk, r') S' => .ok (.nx, r') S'
      | .ok (.rt d, r') S' => .ok (.rt d, r') S'
      | .exc c S' => .exc c S'
      | .bad => .bad)
    | none => .bad
def setAll : List Nat → List D → Env → Option Env
  | [], [], r => some r
  | i :: is, d :: ds, r => setAll is ds (r.set i (some d))
  | _, _, _ => none
mutual
def ex : S → Env → Store → SR
  | .asg tg e, r, S => (ev G C e r S).bind fun x S1 => ofO ((bindTg tg x r).map fun r' => (.nx, r')) S1
  | .par ts es, r, S => (evs G C es r S).bind fun xs S1 => ofO ((setAll ts xs r).map fun r' => (.nx, r')) S1
  | .aset o i e, r, S => (ev G C e r S).bind fun x S1 => (ev G C o r S1).bind fun y S2 => (ev G C i r S2).bind fun z S3 => match setIx S3 y z x with
    | some S4 => .ok (.nx, r) S4
    | none => .bad
  | .aattr o f e, r, S => (ev G C e r S).bind fun x S1 => (ev G C o r S1).bind fun y S2 => match setAttr S2 y f x with
    | some S4 => .ok (.nx, r) S4
    | none => .bad
  | .aug i o e, r, S => match getV r i with
    | some x => (ev G C e r S).bind fun y S1 => (augD S1 o x y).bind fun z S2 => .ok (.nx, r.set i (some z)) S2
    | none => .bad
  | .augix o i p e, r, S => (ev G C o r S).bind fun y S1 => (ev G C i r S1).bind fun z S2 => (ixD S2 y z).bind fun x S3 => (ev G C e r S3).bind fun w S4 => (augD S4 p x w).bind fun u S5 => match setIx S5 y z u with
    | some S6 => .ok (.nx, r) S6
    | none => .bad
  | .exp e, r, S => (ev G C e r S).bind fun _ S1 => .ok (.nx, r) S1
  | .ret e, r, S => (ev G C e r S).bind fun x S1 => .ok (.rt x, r) S1
  | .pass, r, S => .ok (.nx, r) S
  | .brk, r, S => .ok (.bk, r) S
  | .ite c a b, r, S => (ev G C c r S).bind fun x S1 => match tru x with
    | some true => exs a r S1
    | some false => exs b r S1
    | none => .bad
  | .for_ tg it body, r, S => (evj G C it r S).bind fun d S1 => match d with
    | .list items => forL (fun x r' S' => match bindTg tg x r' with
        | some r2 => exs body r2 S'
        | none => .bad) items r S1
    | .tuple items => forL (fun x r' S' => match bindTg tg x r' with
        | some r2 => exs body r2 S'
        | none => .bad) items r S1
    | _ => .bad
  | .whil c body, r, S => whileL (ev G C c) (exs body) 64 r S
  | .raise c, _, S => .exc c S
  | .tri s i j, r, S => match ex s r S with
    | .ok q S' => .ok q S'
    | .exc n S' => if n < 8 then .ok (.nx, (r.set j (some (xcv n))).set i none) S' else .bad
    | .bad => .bad
  | .frz i, r, S => match getV r i with
    | some x => (match freeze 4 x S with
      | some (y, S1) => .ok (.nx, r.set i (some y)) S1
      | none => .bad)
    | none => .bad
def exs : Ss → Env → Store → SR
  | .nil, r, S => .ok (.nx, r) S
  | .cons s ss, r, S => match ex s r S with
    | .ok (.nx, r') S' => exs ss r' S'
    | .ok (.rt d, r') S' => .ok (.rt d, r') S'
    | .ok (.bk, r') S' => .ok (.bk, r') S'
    | .exc c S' => .exc c S'
    | .bad => .bad
end
structure Fn where
  np : Nat
  ns : Nat
  body : Ss
variable (T : Nat → Option Fn)
def callF : Nat → Call
  | 0, _, _, _ => .bad
  | d + 1, f, as, S => match T f with
    | some fn => if as.length = fn.np then (match exs G (callF d) fn.body (as.map some ++ List.replicate (fn.ns - fn.np) none) S with
      | .ok (.rt x, _) S' => .ok x S'
      | .ok (.nx, _) S' => .ok .none S'
      | .ok (.bk, _) _ => .bad
      | .exc c S' => .exc c S'
      | .bad => .bad) else .bad
    | none => .bad
end MP
end

section
set_option Elab.async false
set_option linter.all false
set_option maxRecDepth 100000
set_option maxHeartbeats 4000000
set_option autoImplicit false
namespace MP
open PySem L2 PySem.Spec PyProof.Rows

def Ob.alive : Ob → Bool
  | .dead => false
  | _ => true
def live (A : List Addr) (S : Store) (a : Addr) : Prop := ∃ (n : Nat) (o : Ob), A[n]? = some a ∧ S[n]? = some o ∧ o.alive = true
/-- cv: the classes of exceptions; wd: the world; lc: the class of ledgers -/
structure Cfg where
  cv : Nat → Value
  wd : World
  lc : Addr
structure Wl (c : Cfg) where
  A : List Addr
  S : Store
  Z : Addr → Prop
variable {c : Cfg}
def Wl.M (w : Wl c) (a : Addr) : Prop := live w.A w.S a ∨ w.Z a
/-- an exception object that was caught -/
def XcO (cls : Value) (a : Addr) : HO := .ext fun h => ∃ (oe : Obj) (vs : Array Value), h.get? a = some oe ∧ Zc cls none oe ∧ oe.data = .fields vs

mutual
inductive Rp (H : Hp) (w : Wl c) : V → D → Prop
  | non : Rp H w .non .none
  | bl (b : Bool) : Rp H w (.bl b) (.bool b)
  | int (i : Int) : Rp H w (.int i) (.int i)
  | str (x : Str) : Rp H w (.str x) (.str x)
  | lst {a : Addr} {xs : List V} {ds : List D} : H a = some (.lst xs) → ¬ w.M a → RpAll H w xs ds → Rp H w (.ref a) (.list ds)
  | tup {a : Addr} {xs : List V} {ds : List D} : H a = some (.tup xs) → RpAll H w xs ds → Rp H w (.ref a) (.tuple ds)
  | scr {a : Addr} {o : Obj} {xs : List V} {ds : List D} : H a = some (.frz o (.lst xs)) → RpAll H w xs ds → Rp H w (.ref a) (.dict [(.list ds, .none)])
  | ref {a : Addr} {n : Nat} : w.A[n]? = some a → Rp H w (.ref a) (.dict [(.int (Int.ofNat n), .none)])
  | exv {a : Addr} {n : Nat} : H a = some (XcO (c.cv n) a) → ¬ w.M a → Rp H w (.ref a) (.dict [(.none, .int (Int.ofNat n))])
inductive RpAll (H : Hp) (w : Wl c) : List V → List D → Prop
  | nil : RpAll H w [] []
  | cons {v : V} {vs : List V} {d : D} {ds : List D} : Rp H w v d → RpAll H w vs ds → RpAll H w (v :: vs) (d :: ds)
end

structure Ext (H : Hp) (w : Wl c) (H' : Hp) (w' : Wl c) : Prop where
  A : ∃ B, w'.A = w.A ++ B
  Z : w'.Z = w.Z
  keep : ∀ a o, H a = some o → ¬ live w.A w.S a → H' a = some o ∧ ¬ live w'.A w'.S a
  lck : ∀ (n : Nat) (xs : List D), w.S[n]? = some (.lck xs) → w'.S[n]? = some (.lck xs)
theorem Ext.refl {H : Hp} {w : Wl c} : Ext H w H w := ⟨⟨[], by simp⟩, rfl, fun _ _ h n => ⟨h, n⟩, fun _ _ h => h⟩
theorem Ext.trans {H H1 H2 : Hp} {w w1 w2 : Wl c} (a : Ext H w H1 w1) (b : Ext H1 w1 H2 w2) : Ext H w H2 w2 := by
  obtain ⟨B, hB⟩ := a.A
  obtain ⟨C, hC⟩ := b.A
  refine ⟨⟨B ++ C, by rw [hC, hB, List.append_assoc]⟩, b.Z.trans a.Z, fun c o h n => ?_, fun n xs h => b.lck n xs (a.lck n xs h)⟩
  obtain ⟨h1, n1⟩ := a.keep c o h n
  exact b.keep c o h1 n1
theorem Ext.at {H H' : Hp} {w w' : Wl c} (x : Ext H w H' w') {n : Nat} {a : Addr} (h : w.A[n]? = some a) : w'.A[n]? = some a := by
  obtain ⟨B, hB⟩ := x.A
  have hn : n < w.A.length := by
    rcases Nat.lt_or_ge n w.A.length with q | q
    · exact q
    · rw [List.getElem?_eq_none q] at h; cases h
  rw [hB, List.getElem?_append_left hn]
  exact h

/-! what is asked to move a representation: unmentioned tuples may be anything -/
structure Mv (H : Hp) (w : Wl c) (H' : Hp) (w' : Wl c) : Prop where
  at_ : ∀ (n : Nat) (a : Addr), w.A[n]? = some a → w'.A[n]? = some a
  kp : ∀ a o, H a = some o → ¬ w.M a → H' a = some o ∧ ¬ w'.M a
  tup : ∀ a xs, H a = some (.tup xs) → H' a = some (.tup xs)
  frz : ∀ a o u, H a = some (.frz o u) → H' a = some (.frz o u)
mutual
theorem Rp.mv {H H' : Hp} {w w' : Wl c} (x : Mv H w H' w') : ∀ {v : V} {d : D}, Rp H w v d → Rp H' w' v d
  | _, _, .non => .non
  | _, _, .bl b => .bl b
  | _, _, .int i => .int i
  | _, _, .str z => .str z
  | _, _, .lst h n r => let q := x.kp _ _ h n; .lst q.1 q.2 (RpAll.mv x r)
  | _, _, .tup h r => .tup (x.tup _ _ h) (RpAll.mv x r)
  | _, _, .scr h r => .scr (x.frz _ _ _ h) (RpAll.mv x r)
  | _, _, .ref h => .ref (x.at_ _ _ h)
  | _, _, .exv h n => let q := x.kp _ _ h n; .exv q.1 q.2
theorem RpAll.mv {H H' : Hp} {w w' : Wl c} (x : Mv H w H' w') : ∀ {vs : List V} {ds : List D}, RpAll H w vs ds → RpAll H' w' vs ds
  | _, _, .nil => .nil
  | _, _, .cons h t => .cons (Rp.mv x h) (RpAll.mv x t)
end

/-! objects -/
def isLv : HO → Bool
  | .lst _ => true
  | .ext _ => true
  | .ins _ _ _ => true
  | _ => false
/-- a dict whose keys are tuples: key, its address, value -/
abbrev Dks := List (NestedKey × Addr × V)
def DkV : Dks → List (NestedKey × Addr × Value) → Prop := Paired fun p q => p.1 = q.1 ∧ p.2.1 = q.2.1 ∧ RelV p.2.2 q.2.2
def entW (wd : World) (x : NestedKey × Addr × Value) : DictEntry := ⟨x.1.hash wd, .ref x.2.1, x.2.2⟩
def DcO (wd : World) (a : Addr) (xs : Dks) : HO := .ext fun h => (a == sysModules) = false ∧ xs.length ≤ sizeLine ∧ ∃ ys, DkV xs ys ∧ (ys.map (·.1)).Nodup ∧ ∃ o es ep, h.get? a = some o ∧ o.ExactDict ∧ o.data = .dict es ep ∧ es.toList = ys.map (entW wd)
/-- the keys and values of a dict -/
inductive DkR (H : Hp) (w : Wl c) : Dks → List (D × D) → Prop
  | nil : DkR H w [] []
  | cons {k : NestedKey} {ka : Addr} {v : V} {kd vd : D} {xs : Dks} {ys : List (D × D)} : keyOk kd = true → keyOf kd = some k → Rp H w (.ref ka) kd → Rp H w v vd → DkR H w xs ys → DkR H w ((k, ka, v) :: xs) ((kd, vd) :: ys)
/-- the names of attributes -/
def attN : Nat → Str
  | 0 => "rows"
  | _ => "past"
inductive InR (H : Hp) (w : Wl c) : List (Str × V) → List (Nat × D) → Prop
  | nil : InR H w [] []
  | cons {n : Nat} {v : V} {d : D} {xs : List (Str × V)} {ys : List (Nat × D)} : n < 2 → Rp H w v d → InR H w xs ys → InR H w ((attN n, v) :: xs) ((n, d) :: ys)
def ObR (H : Hp) (w : Wl c) (a : Addr) : Ob → Prop
  | .lst ds => ∃ xs, H a = some (.lst xs) ∧ RpAll H w xs ds
  | .lck ds => ∃ xs, H a = some (.lst xs) ∧ RpAll H w xs ds
  | .dct kvs => ∃ xs, H a = some (DcO c.wd a xs) ∧ DkR H w xs kvs
  | .ins _ fs => ∃ dx gs, H a = some (.ins c.lc dx gs) ∧ InR H w gs fs
  | .dead => True
structure Wok (H : Hp) (w : Wl c) : Prop where
  len : w.A.length = w.S.length
  inj : ∀ (m n : Nat) (a : Addr) (o p : Ob), w.A[m]? = some a → w.A[n]? = some a → w.S[m]? = some o → o.alive = true → w.S[n]? = some p → p.alive = true → m = n
  obj : ∀ (n : Nat) (a : Addr) (o : Ob), w.A[n]? = some a → w.S[n]? = some o → ObR H w a o
  nz : ∀ a, live w.A w.S a → ¬ w.Z a
  tr : ∀ a, w.Z a → ∃ o, H a = some o
theorem ObR.alive {H : Hp} {w : Wl c} {a : Addr} {o : Ob} (h : ObR H w a o) (l : o.alive = true) : ∃ u, H a = some u ∧ isLv u = true := by
  cases o with
  | lst ds => obtain ⟨xs, h, _⟩ := h; exact ⟨_, h, rfl⟩
  | lck ds => obtain ⟨xs, h, _⟩ := h; exact ⟨_, h, rfl⟩
  | dct kvs => obtain ⟨xs, h, _⟩ := h; exact ⟨_, h, rfl⟩
  | ins n fs => obtain ⟨dx, gs, h, _⟩ := h; exact ⟨_, h, rfl⟩
  | dead => cases l
theorem Wok.live {H : Hp} {w : Wl c} (x : Wok H w) {a : Addr} (h : MP.live w.A w.S a) : ∃ u, H a = some u ∧ isLv u = true := by
  obtain ⟨n, o, h1, h2, h3⟩ := h
  exact (x.obj n a o h1 h2).alive h3
theorem Wok.not_tup {H : Hp} {w : Wl c} (x : Wok H w) {a : Addr} {xs : List V} (h : H a = some (.tup xs)) : ¬ MP.live w.A w.S a := fun z => by
  obtain ⟨u, e, l⟩ := x.live z
  rw [h] at e; cases e; cases l
theorem Wok.not_frz {H : Hp} {w : Wl c} (x : Wok H w) {a : Addr} {o : Obj} {u : HO} (h : H a = some (.frz o u)) : ¬ MP.live w.A w.S a := fun z => by
  obtain ⟨u, e, l⟩ := x.live z
  rw [h] at e; cases e; cases l
theorem Ext.mv {H H' : Hp} {w w' : Wl c} (x : Ext H w H' w') (k : Wok H w) : Mv H w H' w' := by
  refine ⟨fun n a h => x.at h, fun a o h n => ?_, fun a xs h => ?_, fun a o u h => ?_⟩
  · have nl : ¬ MP.live w.A w.S a := fun z => n (.inl z)
    obtain ⟨h1, h2⟩ := x.keep a _ h nl
    refine ⟨h1, ?_⟩
    rintro (z | z)
    · exact h2 z
    · rw [x.Z] at z; exact n (.inr z)
  · exact (x.keep a _ h (k.not_tup h)).1
  · exact (x.keep a _ h (k.not_frz h)).1
theorem Rp.ext {H H' : Hp} {w w' : Wl c} {v : V} {d : D} (r : Rp H w v d) (x : Ext H w H' w') (k : Wok H w) : Rp H' w' v d := r.mv (x.mv k)
theorem RpAll.ext {H H' : Hp} {w w' : Wl c} {v : List V} {d : List D} (r : RpAll H w v d) (x : Ext H w H' w') (k : Wok H w) : RpAll H' w' v d := r.mv (x.mv k)
theorem RpAll.length {H : Hp} {w : Wl c} : ∀ {vs : List V} {ds : List D}, RpAll H w vs ds → vs.length = ds.length
  | _, _, .nil => rfl
  | _, _, .cons _ t => by rw [List.length_cons, List.length_cons, t.length]
theorem RpAll.get {H : Hp} {w : Wl c} : ∀ {vs : List V} {ds : List D} {i : Nat} {d : D}, RpAll H w vs ds → ds[i]? = some d → ∃ v, vs[i]? = some v ∧ Rp H w v d
  | _, _, _, _, .nil, e => by simp at e
  | _, _, 0, _, .cons h _, e => by simp at e; subst e; exact ⟨_, rfl, h⟩
  | _, _, i + 1, d, .cons _ t, e => by
    obtain ⟨v, h1, h2⟩ := RpAll.get (i := i) (d := d) t (by simpa using e)
    exact ⟨v, by simpa using h1, h2⟩
theorem RpAll.get' {H : Hp} {w : Wl c} : ∀ {vs : List V} {ds : List D} {i : Nat} {v : V}, RpAll H w vs ds → vs[i]? = some v → ∃ d, ds[i]? = some d ∧ Rp H w v d
  | _, _, _, _, .nil, e => by simp at e
  | _, _, 0, _, .cons h _, e => by simp at e; subst e; exact ⟨_, rfl, h⟩
  | _, _, i + 1, d, .cons _ t, e => by
    obtain ⟨v, h1, h2⟩ := RpAll.get' (i := i) (v := d) t (by simpa using e)
    exact ⟨v, by simpa using h1, h2⟩
theorem RpAll.append {H : Hp} {w : Wl c} : ∀ {vs us : List V} {ds es : List D}, RpAll H w vs ds → RpAll H w us es → RpAll H w (vs ++ us) (ds ++ es)
  | _, _, _, _, .nil, s => s
  | _, _, _, _, .cons h t, s => .cons h (t.append s)
theorem RpAll.take {H : Hp} {w : Wl c} : ∀ {vs : List V} {ds : List D} (n : Nat), RpAll H w vs ds → RpAll H w (vs.take n) (ds.take n)
  | _, _, 0, _ => .nil
  | _, _, _ + 1, .nil => .nil
  | _, _, n + 1, .cons h t => .cons h (RpAll.take n t)
theorem RpAll.drop {H : Hp} {w : Wl c} : ∀ {vs : List V} {ds : List D} (n : Nat), RpAll H w vs ds → RpAll H w (vs.drop n) (ds.drop n)
  | _, _, 0, r => r
  | _, _, _ + 1, .nil => .nil
  | _, _, n + 1, .cons _ t => RpAll.drop n t
theorem RpAll.set {H : Hp} {w : Wl c} {v : V} {d : D} (r : Rp H w v d) : ∀ {vs : List V} {ds : List D} (n : Nat), RpAll H w vs ds → RpAll H w (vs.set n v) (ds.set n d)
  | _, _, _, .nil => .nil
  | _, _, 0, .cons _ t => .cons r t
  | _, _, n + 1, .cons h t => .cons h (RpAll.set r n t)
theorem RpAll.reverse {H : Hp} {w : Wl c} : ∀ {vs : List V} {ds : List D}, RpAll H w vs ds → RpAll H w vs.reverse ds.reverse
  | _, _, .nil => .nil
  | _, _, .cons h t => by
    rw [List.reverse_cons, List.reverse_cons]
    exact t.reverse.append (.cons h .nil)

/-! a new object -/
theorem ext_new {H : Hp} {w : Wl c} {p : Addr} {o : HO} (h : H p = none) : Ext H w (upd H p o) w :=
  ⟨⟨[], by simp⟩, rfl, fun a u e n => ⟨by rw [upd_ne (ne_of_none e h)]; exact e, n⟩, fun _ _ h => h⟩
theorem DkR.mv {H H' : Hp} {w w' : Wl c} (m : Mv H w H' w') : ∀ {xs : Dks} {ys : List (D × D)}, DkR H w xs ys → DkR H' w' xs ys
  | _, _, .nil => .nil
  | _, _, .cons a b r1 r2 t => .cons a b (r1.mv m) (r2.mv m) (DkR.mv m t)
theorem InR.mv {H H' : Hp} {w w' : Wl c} (m : Mv H w H' w') : ∀ {xs : List (Str × V)} {ys : List (Nat × D)}, InR H w xs ys → InR H' w' xs ys
  | _, _, .nil => .nil
  | _, _, .cons n r t => .cons n (r.mv m) (InR.mv m t)
theorem ObR.ext {H H' : Hp} {w w' : Wl c} {a : Addr} {o : Ob} (r : ObR H w a o) (m : Mv H w H' w') (h : o.alive = true → H' a = H a) : ObR H' w' a o := by
  cases o with
  | lst ds => obtain ⟨xs, e, r⟩ := r; exact ⟨xs, (h rfl).trans e, r.mv m⟩
  | lck ds => obtain ⟨xs, e, r⟩ := r; exact ⟨xs, (h rfl).trans e, r.mv m⟩
  | dct kvs => obtain ⟨xs, e, r⟩ := r; exact ⟨xs, (h rfl).trans e, r.mv m⟩
  | ins n fs => obtain ⟨dx, gs, e, r⟩ := r; exact ⟨dx, gs, (h rfl).trans e, r.mv m⟩
  | dead => exact trivial
theorem Wok.new {H : Hp} {w : Wl c} {p : Addr} {o : HO} (k : Wok H w) (h : H p = none) : Wok (upd H p o) w := by
  refine ⟨k.len, k.inj, fun n a ob ha ho => ?_, k.nz, fun a z => ?_⟩
  · refine (k.obj n a ob ha ho).ext ((ext_new h).mv k) fun al => ?_
    obtain ⟨xs, e, _⟩ := (k.obj n a ob ha ho).alive al
    rw [upd_ne (ne_of_none e h)]
  · obtain ⟨u, e⟩ := k.tr a z
    exact ⟨u, by rw [upd_ne (ne_of_none e h)]; exact e⟩
theorem Wok.fresh {H : Hp} {w : Wl c} {p : Addr} (k : Wok H w) (h : H p = none) : ¬ w.M p := by
  rintro (z | z)
  · obtain ⟨xs, e, _⟩ := k.live z
    rw [h] at e; cases e
  · obtain ⟨u, e⟩ := k.tr p z
    rw [h] at e; cases e
theorem Rp.newL {H : Hp} {w : Wl c} {p : Addr} {xs : List V} {ds : List D} (k : Wok H w) (h : H p = none) (r : RpAll H w xs ds) : Rp (upd H p (.lst xs)) w (.ref p) (.list ds) :=
  .lst upd_same (k.fresh h) (r.ext (ext_new h) k)
theorem Rp.newT {H : Hp} {w : Wl c} {p : Addr} {xs : List V} {ds : List D} (k : Wok H w) (h : H p = none) (r : RpAll H w xs ds) : Rp (upd H p (.tup xs)) w (.ref p) (.tuple ds) :=
  .tup upd_same (r.ext (ext_new h) k)

/-! slots -/
def ER (H : Hp) (w : Wl c) (r : Env) (σ : L2.St) : Prop := r.length = σ.length ∧ ∀ (i : Nat) (d : D), r[i]? = some (some d) → ∃ v, σ[i]? = some (some v) ∧ Rp H w v d
theorem ER.mv {H H' : Hp} {w w' : Wl c} {r : Env} {σ : L2.St} (e : ER H w r σ) (m : Mv H w H' w') : ER H' w' r σ :=
  ⟨e.1, fun i d h => let ⟨v, h1, h2⟩ := e.2 i d h; ⟨v, h1, h2.mv m⟩⟩
theorem ER.ext {H H' : Hp} {w w' : Wl c} {r : Env} {σ : L2.St} (e : ER H w r σ) (x : Ext H w H' w') (k : Wok H w) : ER H' w' r σ := e.mv (x.mv k)
theorem ER.set {H : Hp} {w : Wl c} {r : Env} {σ : L2.St} {v : V} {d : D} (e : ER H w r σ) (h : Rp H w v d) (i : Nat) : ER H w (r.set i (some d)) (σ.set i (some v)) := by
  refine ⟨by rw [List.length_set, List.length_set]; exact e.1, fun j c hj => ?_⟩
  by_cases hij : i = j
  · subst hij
    by_cases hl : i < r.length
    · rw [List.getElem?_set_self hl] at hj
      cases hj
      exact ⟨v, List.getElem?_set_self (by rw [← e.1]; exact hl), h⟩
    · rw [List.getElem?_eq_none (by rw [List.length_set]; omega)] at hj
      cases hj
  · rw [List.getElem?_set_ne hij] at hj
    obtain ⟨u, h1, h2⟩ := e.2 j c hj
    exact ⟨u, by rw [List.getElem?_set_ne hij]; exact h1, h2⟩
theorem ER.get {H : Hp} {w : Wl c} {r : Env} {σ : L2.St} {i : Nat} {d : D} (e : ER H w r σ) (h : getV r i = some d) : ∃ v, σ[i]? = some (some v) ∧ Rp H w v d := by
  unfold getV at h
  split at h
  · rename_i x q
    cases h
    exact e.2 i d q
  · cases h
theorem ER.wipe {H : Hp} {w : Wl c} {r : Env} {σ : L2.St} (e : ER H w r σ) : ∀ vs : List Nat, ER H w (MP.wipe r vs) (L2.wipe σ vs)
  | [] => e
  | v :: vs => by
    have ih := ER.wipe e vs
    unfold MP.wipe L2.wipe
    refine ⟨by rw [List.length_set, List.length_set]; exact ih.1, fun j c hj => ?_⟩
    by_cases hij : v = j
    · subst hij
      by_cases hl : v < (MP.wipe r vs).length
      · rw [List.getElem?_set_self hl] at hj; cases hj
      · rw [List.getElem?_eq_none (by rw [List.length_set]; omega)] at hj; cases hj
    · rw [List.getElem?_set_ne hij] at hj
      obtain ⟨u, h1, h2⟩ := ih.2 j c hj
      exact ⟨u, by rw [List.getElem?_set_ne hij]; exact h1, h2⟩

/-! ends -/
/-- fi: the value is a list that nothing else knows -/
def Out (fi : Bool) (c : Cfg) (W : WX) (σ : L2.St) (H : Hp) (w : Wl c) (Q : VK) : Res D → Prop
  | .bad => False
  | .ok d S' => match fi with
    | false => ∀ H' w' v, Ext H w H' w' → w'.S = S' → Wok H' w' → Rp H' w' v d → Q v H'
    | true => ∃ ds, d = .list ds ∧ ∀ H' w' p xs, Ext H w H' w' → w'.S = S' → Wok H' w' → RpAll H' w' xs ds → H' p = none → Q (.ref p) (upd H' p (.lst xs))
  | .exc x S' => ∀ H' w', Ext H w H' w' → w'.S = S' → Wok H' w' → W (c.cv x) none σ H'
abbrev OutE := Out false
def OutA (c : Cfg) (W : WX) (σ : L2.St) (H : Hp) (w : Wl c) (Q : List V → Hp → Prop) : Res (List D) → Prop
  | .bad => False
  | .ok d S' => ∀ H' w' v, Ext H w H' w' → w'.S = S' → Wok H' w' → RpAll H' w' v d → Q v H'
  | .exc x S' => ∀ H' w', Ext H w H' w' → w'.S = S' → Wok H' w' → W (c.cv x) none σ H'
section
variable {fi : Bool} {c : Cfg} {W : WX} {σ : L2.St} {H H1 : Hp} {w w1 : Wl c}
theorem Out.trans {Q : VK} {r : Res D} (o : Out fi c W σ H w Q r) (x : Ext H w H1 w1) : Out fi c W σ H1 w1 Q r := by
  cases r with
  | bad => exact o
  | ok d S' =>
    cases fi with
    | false => exact fun H' w' v y e k r => o H' w' v (x.trans y) e k r
    | true =>
      obtain ⟨ds, e, o⟩ := o
      exact ⟨ds, e, fun H' w' p xs y e k r n => o H' w' p xs (x.trans y) e k r n⟩
  | exc n S' => exact fun H' w' y e k => o H' w' (x.trans y) e k
theorem OutA.trans {Q : List V → Hp → Prop} {r : Res (List D)} (o : OutA c W σ H w Q r) (x : Ext H w H1 w1) : OutA c W σ H1 w1 Q r := by
  cases r with
  | bad => exact o
  | ok d S' => exact fun H' w' v y e k r => o H' w' v (x.trans y) e k r
  | exc n S' => exact fun H' w' y e k => o H' w' (x.trans y) e k
theorem Out.bind {Q Q' : VK} {r : Res D} {f : D → Store → Res D} (o : Out fi c W σ H w Q (r.bind f))
    (h : ∀ d H1 w1 v, Ext H w H1 w1 → Wok H1 w1 → Rp H1 w1 v d → Out fi c W σ H1 w1 Q (f d w1.S) → Q' v H1) : OutE c W σ H w Q' r := by
  cases r with
  | bad => exact o
  | ok d S' =>
    intro H' w' v x e k rp
    subst e
    exact h d H' w' v x k rp (Out.trans (r := f d w'.S) o x)
  | exc n S' => exact o
theorem Out.bindA {Q : List V → Hp → Prop} {Q' : VK} {r : Res D} {f : D → Store → Res (List D)} (o : OutA c W σ H w Q (r.bind f))
    (h : ∀ d H1 w1 v, Ext H w H1 w1 → Wok H1 w1 → Rp H1 w1 v d → OutA c W σ H1 w1 Q (f d w1.S) → Q' v H1) : OutE c W σ H w Q' r := by
  cases r with
  | bad => exact o
  | ok d S' =>
    intro H' w' v x e k rp
    subst e
    exact h d H' w' v x k rp (OutA.trans (r := f d w'.S) o x)
  | exc n S' => exact o
theorem OutA.bind {Q : VK} {Q' : List V → Hp → Prop} {r : Res (List D)} {f : List D → Store → Res D} (o : Out fi c W σ H w Q (r.bind f))
    (h : ∀ d H1 w1 v, Ext H w H1 w1 → Wok H1 w1 → RpAll H1 w1 v d → Out fi c W σ H1 w1 Q (f d w1.S) → Q' v H1) : OutA c W σ H w Q' r := by
  cases r with
  | bad => exact o
  | ok d S' =>
    intro H' w' v x e k rp
    subst e
    exact h d H' w' v x k rp (Out.trans (r := f d w'.S) o x)
  | exc n S' => exact o
theorem OutA.bindA {Q Q' : List V → Hp → Prop} {r : Res (List D)} {f : List D → Store → Res (List D)} (o : OutA c W σ H w Q (r.bind f))
    (h : ∀ d H1 w1 v, Ext H w H1 w1 → Wok H1 w1 → RpAll H1 w1 v d → OutA c W σ H1 w1 Q (f d w1.S) → Q' v H1) : OutA c W σ H w Q' r := by
  cases r with
  | bad => exact o
  | ok d S' =>
    intro H' w' v x e k rp
    subst e
    exact h d H' w' v x k rp (OutA.trans (r := f d w'.S) o x)
  | exc n S' => exact o
def notL : D → Bool
  | .list _ => false
  | _ => true
/-- a value that is no new list -/
theorem Out.val {Q : VK} {d : D} {v : V} (o : Out fi c W σ H w Q (.ok d w.S)) (k : Wok H w) (r : Rp H w v d) (h : notL d = true := by rfl) : Q v H := by
  cases fi with
  | false => exact o H w v .refl rfl k r
  | true =>
    obtain ⟨ds, e, _⟩ := o
    subst e
    cases h
theorem Out.valE {Q : VK} {d : D} {v : V} (o : OutE c W σ H w Q (.ok d w.S)) (k : Wok H w) (r : Rp H w v d) : Q v H := o H w v .refl rfl k r
theorem Out.newL {Q : VK} {ds : List D} {xs : List V} (o : Out fi c W σ H w Q (.ok (.list ds) w.S)) (k : Wok H w) (r : RpAll H w xs ds) {p : Addr} (hp : H p = none) : Q (.ref p) (upd H p (.lst xs)) := by
  cases fi with
  | false => exact o _ w _ (ext_new hp) rfl (k.new hp) (Rp.newL k hp r)
  | true =>
    obtain ⟨ds', e, o⟩ := o
    cases e
    exact o H w p xs .refl rfl k r hp
theorem Out.newT {Q : VK} {ds : List D} {xs : List V} (o : Out fi c W σ H w Q (.ok (.tuple ds) w.S)) (k : Wok H w) (r : RpAll H w xs ds) {p : Addr} (hp : H p = none) : Q (.ref p) (upd H p (.tup xs)) := by
  cases fi with
  | false => exact o _ w _ (ext_new hp) rfl (k.new hp) (Rp.newT k hp r)
  | true => obtain ⟨ds', e, o⟩ := o; cases e
theorem Out.okI {Q : VK} {b : Bool} {d : D} (o : Out fi c W σ H w Q (okI b d w.S)) : b = true ∧ Out fi c W σ H w Q (.ok d w.S) := by
  unfold MP.okI at o
  split at o
  · rename_i h; exact ⟨h, o⟩
  · exact o.elim
theorem Out.ofO {Q : VK} {x : Option D} (o : Out fi c W σ H w Q (ofO x w.S)) : ∃ d, x = some d ∧ Out fi c W σ H w Q (.ok d w.S) := by
  unfold MP.ofO at o
  split at o
  · rename_i d; exact ⟨d, rfl, o⟩
  · exact o.elim
theorem Out.cmp {Q : VK} {op : Cop} {d e : D} (o : Out fi c W σ H w Q (cmpR w.S op d e)) (k : Wok H w) : ∃ b, cmpD w.S op d e = some b ∧ Q (.bl b) H := by
  obtain ⟨x, h, o⟩ := o.ofO
  simp only [Option.map_eq_some_iff] at h
  obtain ⟨b, hb, rfl⟩ := h
  exact ⟨b, hb, o.val k (.bl b)⟩
end

def rdG (fi : Bool) (c : Cfg) (W : WX) (f : Env → Store → Res D) : TE := fun σ H Q => ∃ w : Wl c, ∃ r, Wok H w ∧ ER H w r σ ∧ Out fi c W σ H w Q (f r w.S)
abbrev rdE := rdG false
def rdA (c : Cfg) (W : WX) (f : Env → Store → Res (List D)) : TA := fun σ H Q => ∃ w : Wl c, ∃ r, Wok H w ∧ ER H w r σ ∧ OutA c W σ H w Q (f r w.S)
/-- what an operator asks of two data -/
def rOp (fi : Bool) (c : Cfg) (W : WX) (σ : L2.St) (g : Store → D → D → Res D) : R2 := fun x y H Q => ∃ w : Wl c, ∃ d e, Wok H w ∧ Rp H w x d ∧ Rp H w y e ∧ Out fi c W σ H w Q (g w.S d e)
def rCl (fi : Bool) (c : Cfg) (W : WX) (σ : L2.St) (g : Store → List D → Res D) : List V → Hp → VK → Prop := fun xs H Q => ∃ w : Wl c, ∃ ds, Wok H w ∧ RpAll H w xs ds ∧ Out fi c W σ H w Q (g w.S ds)
end MP
end

section
set_option Elab.async false
set_option linter.all false
set_option maxRecDepth 100000
set_option maxHeartbeats 4000000
set_option autoImplicit false
namespace MP
open PySem L2 PySem.Spec PyProof.Rows
variable {c : Cfg}

theorem PE.imp {X : Cx} {e : Expr} {t t' : TE} (h : PE X e t) (k : ∀ σ H Q, t' σ H Q → t σ H Q) : PE X e t' := ⟨fun pins s σ H Q I q => h.run pins s σ H Q I (k σ H Q q)⟩
theorem PT.imp {X : Cx} {e : Expr} {t t' : TT} (h : PT X e t) (k : ∀ σ H Q, t' σ H Q → t σ H Q) : PT X e t' := ⟨fun pins s σ H Q I q => h.run pins s σ H Q I (k σ H Q q)⟩
theorem PA.imp {X : Cx} {e : List Expr} {t t' : TA} (h : PA X e t) (k : ∀ σ H Q, t' σ H Q → t σ H Q) : PA X e t' := ⟨fun a b c d e f g q => h.run a b c d e f g (k _ _ _ q)⟩
theorem PS.imp {X : Cx} {e : Stmt} {t t' : TS} (h : PS X e t) (k : ∀ D σ H, t' D σ H → t D σ H) : PS X e t' := ⟨fun pins s σ H D I q => h.run pins s σ H D I (k D σ H q)⟩
theorem PSs.imp {X : Cx} {e : List Stmt} {t t' : TS} (h : PSs X e t) (k : ∀ D σ H, t' D σ H → t D σ H) : PSs X e t' := ⟨fun pins s σ H D I q => h.run pins s σ H D I (k D σ H q)⟩
theorem OpR.imp {X : Cx} {f : Value → Value → Sem Value} {r r' : R2} (h : OpR X f r) (k : ∀ x y H Q, r' x y H Q → r x y H Q) : OpR X f r' := fun pins s σ H x y v u Q I rx ry q => h pins s σ H x y v u Q I rx ry (k x y H Q q)
theorem CallR.imp {X : Cx} {f : Value} {r r' : List V → Hp → VK → Prop} (h : CallR X f r) (k : ∀ xs H Q, r' xs H Q → r xs H Q) : CallR X f r' := fun pins s σ H xs us Q I rx q => h pins s σ H xs us Q I rx (k xs H Q q)

theorem asRef_eq {d : D} {n : Nat} (h : asRef d = some n) : d = rf n := by
  unfold asRef at h
  split at h
  · cases h; rfl
  · cases h
section
variable {H : Hp} {w : Wl c} {v : V}
theorem Rp.int_inv {i : Int} (r : Rp H w v (.int i)) : v = .int i := by cases r; rfl
theorem Rp.bl_inv {i : Bool} (r : Rp H w v (.bool i)) : v = .bl i := by cases r; rfl
theorem Rp.str_inv {i : Str} (r : Rp H w v (.str i)) : v = .str i := by cases r; rfl
theorem Rp.non_inv (r : Rp H w v .none) : v = .non := by cases r; rfl
theorem Rp.tup_inv {ds : List D} (r : Rp H w v (.tuple ds)) : ∃ a xs, v = .ref a ∧ H a = some (.tup xs) ∧ RpAll H w xs ds := by
  cases r with | tup h q => exact ⟨_, _, rfl, h, q⟩
theorem Rp.lst_inv {ds : List D} (r : Rp H w v (.list ds)) : ∃ a xs, v = .ref a ∧ H a = some (.lst xs) ∧ ¬ w.M a ∧ RpAll H w xs ds := by
  cases r with | lst h n q => exact ⟨_, _, rfl, h, n, q⟩
theorem Rp.ref_inv {n : Nat} (r : Rp H w v (rf n)) : ∃ a, v = .ref a ∧ w.A[n]? = some a := by
  cases r with | ref h => exact ⟨_, rfl, h⟩
theorem Rp.scr_inv {ds : List D} (r : Rp H w v (MP.scr ds)) : ∃ a o xs, v = .ref a ∧ H a = some (.frz o (.lst xs)) ∧ RpAll H w xs ds := by
  cases r with | scr h q => exact ⟨_, _, _, rfl, h, q⟩
theorem viewR_rp {d : D} {ds : List D} (k : Wok H w) (h : viewR w.S d = some ds) (r : Rp H w v d) : ∃ a xs, v = .ref a ∧ H a = some (.lst xs) ∧ RpAll H w xs ds := by
  unfold viewR at h
  split at h
  · rename_i n e
    have e' := asRef_eq e
    subst e'
    obtain ⟨a, rfl, ha⟩ := r.ref_inv
    split at h
    · rename_i xs q
      cases h
      obtain ⟨ys, h1, h2⟩ := k.obj n a _ ha q
      exact ⟨a, ys, rfl, h1, h2⟩
    · rename_i xs q
      cases h
      obtain ⟨ys, h1, h2⟩ := k.obj n a _ ha q
      exact ⟨a, ys, rfl, h1, h2⟩
    · cases h
  · cases h
theorem viewL_rp {d : D} {ds : List D} (k : Wok H w) (h : viewL w.S d = some ds) (r : Rp H w v d) : ∃ a xs, v = .ref a ∧ H a = some (.lst xs) ∧ RpAll H w xs ds := by
  unfold viewL at h
  split at h
  · cases h
    obtain ⟨a, xs, e, h1, _, h2⟩ := r.lst_inv
    exact ⟨a, xs, e, h1, h2⟩
  · exact viewR_rp k h r
theorem viewS_rp {d : D} {ds : List D} (k : Wok H w) (h : viewS w.S d = some ds) (r : Rp H w v d) : ∃ a xs, v = .ref a ∧ (H a = some (.lst xs) ∨ H a = some (.tup xs)) ∧ RpAll H w xs ds := by
  unfold viewS at h
  split at h
  · cases h
    obtain ⟨a, xs, e, h1, h2⟩ := r.tup_inv
    exact ⟨a, xs, e, .inr h1, h2⟩
  · cases h
    obtain ⟨a, xs, e, h1, _, h2⟩ := r.lst_inv
    exact ⟨a, xs, e, .inl h1, h2⟩
  · obtain ⟨a, xs, e, h1, h2⟩ := viewR_rp k h r
    exact ⟨a, xs, e, .inl h1, h2⟩
end
theorem mapO_all {α β : Type} {f : α → Option β} : ∀ {xs : List α} {ys : List β}, mapO f xs = some ys → xs.length = ys.length ∧ ∀ (i : Nat) (x : α), xs[i]? = some x → ∃ y, ys[i]? = some y ∧ f x = some y
  | [], ys, h => by cases h; exact ⟨rfl, fun i x e => by simp at e⟩
  | x :: xs, ys, h => by
    unfold mapO at h
    split at h
    · rename_i y hy
      split at h
      · rename_i zs hz
        cases h
        obtain ⟨h1, h2⟩ := mapO_all hz
        refine ⟨by rw [List.length_cons, List.length_cons, h1], fun i u e => ?_⟩
        cases i with
        | zero => simp at e; subst e; exact ⟨y, rfl, hy⟩
        | succ i => simpa using h2 i u (by simpa using e)
      · cases h
    · cases h
/-! data without references -/
mutual
theorem rz_dp {K : PySem.W.Frag} {H : Hp} {w : Wl c} (k : Wok H w) : ∀ (n : Nat) {d e : D} {v : V}, resolve w.S n d = some e → Rp H w v d → Dp K H v e ∧ e.plain = true ∧ e.depth ≤ n
  | 0, _, _, _, h, _ => by cases h
  | n + 1, d, e, v, h, r => by
    cases d with
    | none => cases h; cases r; exact ⟨.non, rfl, Nat.zero_le _⟩
    | bool b => cases h; cases r; exact ⟨.bl b, rfl, Nat.zero_le _⟩
    | int b => cases h; cases r; exact ⟨.int b, rfl, Nat.zero_le _⟩
    | str b => cases h; cases r; exact ⟨.str b, rfl, Nat.zero_le _⟩
    | list xs =>
      simp only [resolve, Option.map_eq_some_iff] at h
      obtain ⟨ys, hy, rfl⟩ := h
      obtain ⟨a, us, rfl, h1, _, h2⟩ := r.lst_inv
      obtain ⟨q1, q2, q3⟩ := rz_dpAll (K := K) k n hy h2
      exact ⟨.lst (SqL.of h1) q1, by simpa [PyData.plain] using q2, by simp only [PyData.depth]; omega⟩
    | tuple xs =>
      simp only [resolve, Option.map_eq_some_iff] at h
      obtain ⟨ys, hy, rfl⟩ := h
      obtain ⟨a, us, rfl, h1, h2⟩ := r.tup_inv
      obtain ⟨q1, q2, q3⟩ := rz_dpAll (K := K) k n hy h2
      exact ⟨.tup (SqT.of h1) q1, by simpa [PyData.plain] using q2, by simp only [PyData.depth]; omega⟩
    | dict kvs =>
      simp only [resolve] at h
      split at h
      · rename_i xs hx
        simp only [Option.map_eq_some_iff] at h
        obtain ⟨ys, hy, rfl⟩ := h
        obtain ⟨a, us, rfl, h1, h2⟩ := viewR_rp k hx r
        obtain ⟨q1, q2, q3⟩ := rz_dpAll (K := K) k n hy h2
        exact ⟨.lst (SqL.of h1) q1, by simpa [PyData.plain] using q2, by simp only [PyData.depth]; omega⟩
      · cases h
theorem rz_dpAll {K : PySem.W.Frag} {H : Hp} {w : Wl c} (k : Wok H w) : ∀ (n : Nat) {ds es : List D} {vs : List V}, mapO (resolve w.S n) ds = some es → RpAll H w vs ds → DpAll K H vs es ∧ PyData.plainAll es = true ∧ PyData.depthAll es ≤ n
  | n, [], es, vs, h, r => by cases h; cases r; exact ⟨.nil, rfl, Nat.zero_le _⟩
  | n, d :: ds, es, vs, h, r => by
    unfold mapO at h
    split at h
    · rename_i y hy
      split at h
      · rename_i zs hz
        cases h
        cases r with
        | cons r1 r2 =>
          obtain ⟨p1, p2, p3⟩ := rz_dp (K := K) k n hy r1
          obtain ⟨q1, q2, q3⟩ := rz_dpAll (K := K) k n hz r2
          exact ⟨.cons p1 q1, by simp [PyData.plainAll, p2, q2], by simp only [PyData.depthAll]; omega⟩
      · cases h
    · cases h
end
end MP
end

section
set_option Elab.async false
set_option linter.all false
set_option maxRecDepth 100000
set_option maxHeartbeats 4000000
set_option autoImplicit false
namespace MP
open PySem L2 PySem.Spec PyProof.Rows
variable {c : Cfg}
/-! ### keys of dicts -/
section
variable {X : Cx} {pins : List (Addr × Obj)} {σ : L2.St} {H : Hp} {s : Shared} {w : Wl c}
mutual
theorem nest_of (I : Inv X pins σ H s) : ∀ (d : D) {k : NestedKey} {v : V} {u : Value}, keyOf d = some k → Rp H w v d → RelV v u → NestedIs s.heap k u ∧ k.depth ≤ d.depth
  | .none, k, v, u, h, r, q => by cases h; cases r; cases q; exact ⟨.none, Nat.le_refl _⟩
  | .int i, k, v, u, h, r, q => by cases h; cases r; obtain ⟨t, rfl⟩ := q; exact ⟨.int i t, Nat.le_refl _⟩
  | .str i, k, v, u, h, r, q => by cases h; cases r; obtain ⟨t, rfl⟩ := q; exact ⟨.text i t, Nat.le_refl _⟩
  | .tuple xs, k, v, u, h, r, q => by
    simp only [keyOf, Option.map_eq_some_iff] at h
    obtain ⟨ks, hk, rfl⟩ := h
    obtain ⟨a, vs, rfl, h1, h2⟩ := r.tup_inv
    cases q
    obtain ⟨its, rv, ⟨o, e1, e2, n, e3⟩, _⟩ := I.tuple (SqT.of (K := X.K) h1)
    obtain ⟨z1, z2⟩ := nests_of I xs hk h2 rv
    exact ⟨.tup e1 e2 e3 (by simpa using z1), by simp only [NestedKey.depth, PyData.depth]; omega⟩
  | .bool _, _, _, _, h, _, _ => by cases h
  | .list _, _, _, _, h, _, _ => by cases h
  | .dict _, _, _, _, h, _, _ => by cases h
theorem nests_of (I : Inv X pins σ H s) : ∀ (ds : List D) {ks : List NestedKey} {vs : List V} {us : List Value}, keyOfs ds = some ks → RpAll H w vs ds → Vals vs us → NestedAll s.heap ks us ∧ NestedKey.depthAll ks ≤ PyData.depthAll ds
  | [], ks, vs, us, h, r, q => by cases h; cases r; cases q; exact ⟨.nil, Nat.le_refl _⟩
  | d :: ds, ks, vs, us, h, r, q => by
    unfold keyOfs at h
    split at h
    · rename_i k hk
      split at h
      · rename_i ks hks
        cases h
        cases r with
        | cons r1 r2 => cases q with
          | cons q1 q2 =>
            obtain ⟨a1, a2⟩ := nest_of I d hk r1 q1
            obtain ⟨b1, b2⟩ := nests_of I ds hks r2 q2
            exact ⟨.cons a1 b1, by simp only [NestedKey.depthAll, PyData.depthAll]; omega⟩
      · cases h
    · cases h
end
end
mutual
theorem key_eqv : ∀ (a b : D) {x y : NestedKey}, keyOf a = some x → keyOf b = some y → PyData.eqv a b = NestedKey.beq x y
  | .none, b, x, y, ha, hb => by
    cases ha
    cases b <;> first | (cases hb; done) | (cases hb; rfl) | (simp only [keyOf, Option.map_eq_some_iff] at hb; obtain ⟨_, _, rfl⟩ := hb; rfl)
  | .int i, b, x, y, ha, hb => by
    cases ha
    cases b <;> first | (cases hb; done) | (cases hb; first | rfl | (simp only [PyData.eqv, NestedKey.beq]; rw [Bool.eq_iff_iff]; simp)) | (simp only [keyOf, Option.map_eq_some_iff] at hb; obtain ⟨_, _, rfl⟩ := hb; rfl)
  | .str i, b, x, y, ha, hb => by
    cases ha
    cases b <;> first | (cases hb; done) | (cases hb; first | rfl | (simp only [PyData.eqv, NestedKey.beq]; rw [Bool.eq_iff_iff]; simp)) | (simp only [keyOf, Option.map_eq_some_iff] at hb; obtain ⟨_, _, rfl⟩ := hb; rfl)
  | .tuple xs, b, x, y, ha, hb => by
    simp only [keyOf, Option.map_eq_some_iff] at ha
    obtain ⟨ks, hk, rfl⟩ := ha
    cases b with
    | tuple ys =>
      simp only [keyOf, Option.map_eq_some_iff] at hb
      obtain ⟨ls, hl, rfl⟩ := hb
      simp only [PyData.eqv, NestedKey.beq]
      exact keys_eqv xs ys hk hl
    | none => cases hb; rfl
    | int _ => cases hb; rfl
    | str _ => cases hb; rfl
    | bool _ => cases hb
    | list _ => cases hb
    | dict _ => cases hb
  | .bool _, _, _, _, h, _ => by cases h
  | .list _, _, _, _, h, _ => by cases h
  | .dict _, _, _, _, h, _ => by cases h
theorem keys_eqv : ∀ (a b : List D) {x y : List NestedKey}, keyOfs a = some x → keyOfs b = some y → PyData.eqvAll a b = NestedKey.beqAll x y
  | [], [], _, _, ha, hb => by cases ha; cases hb; rfl
  | [], b :: bs, _, _, ha, hb => by
    cases ha
    unfold keyOfs at hb
    split at hb
    · split at hb
      · cases hb; rfl
      · cases hb
    · cases hb
  | a :: as, [], _, _, ha, hb => by
    cases hb
    unfold keyOfs at ha
    split at ha
    · split at ha
      · cases ha; rfl
      · cases ha
    · cases ha
  | a :: as, b :: bs, _, _, ha, hb => by
    unfold keyOfs at ha hb
    split at ha
    · rename_i k hk
      split at ha
      · rename_i ks hks
        split at hb
        · rename_i l hl
          split at hb
          · rename_i ls hls
            cases ha; cases hb
            simp only [PyData.eqvAll, NestedKey.beqAll]
            rw [key_eqv a b hk hl, keys_eqv as bs hks hls]
          · cases hb
        · cases hb
      · cases ha
    · cases ha
end
theorem key_dec {a b : D} {x y : NestedKey} (ha : keyOf a = some x) (hb : keyOf b = some y) : PyData.eqv a b = decide (x = y) := by
  rw [key_eqv a b ha hb, NestedKey.decide_eq]
/-! ### look-ups and stores -/
section
variable {H : Hp} {w : Wl c}
theorem find_at {k : NestedKey} {kd : D} (hk : keyOf kd = some k) : ∀ {xs : Dks} {kvs : List (D × D)} {ys : List (NestedKey × Addr × Value)}, DkR H w xs kvs → DkV xs ys →
    (find kvs kd = none → atKey ys k = none) ∧ ∀ vd, find kvs kd = some vd → ∃ ka v u, atKey ys k = some (ka, u) ∧ RelV v u ∧ Rp H w v vd
  | _, _, _, .nil, .nil => ⟨fun _ => rfl, fun _ h => by cases h⟩
  | _, _, _, .cons (k := k') (ka := ka') (kd := kd') a b r1 r2 t, .cons (b := y) (l₂ := ys) p q => by
    obtain ⟨i1, i2⟩ := find_at hk t q
    have e := key_dec b hk
    obtain ⟨yk, ya, yv⟩ := y
    have p1 := p.1
    have p2 := p.2.1
    have p3 := p.2.2
    simp only at p1 p2 p3
    subst p1
    subst p2
    unfold find
    rw [e]
    by_cases h : k' = k
    · subst h
      simp only [decide_true, if_true]
      refine ⟨fun z => (nomatch z), fun vd hv => ?_⟩
      cases hv
      exact ⟨_, _, yv, by simp [atKey]; rfl, p3, r2⟩
    · rw [decide_eq_false h]
      simp only [Bool.false_eq_true, if_false]
      have e2 : atKey ((k', ka', yv) :: ys) k = atKey ys k := by
        unfold atKey
        rw [List.find?_cons]
        simp only [decide_eq_false h]
      rw [e2]
      exact ⟨i1, i2⟩
def putV (k : NestedKey) (v : V) (x : NestedKey × Addr × V) : NestedKey × Addr × V := if x.1 = k then (x.1, x.2.1, v) else x
theorem putV_off {k : NestedKey} {v : V} {xs : Dks} (h : ∀ x ∈ xs, x.1 ≠ k) : xs.map (putV k v) = xs := by
  induction xs with
  | nil => rfl
  | cons x xs ih =>
    rw [List.map_cons, ih fun y hy => h y (List.mem_cons_of_mem _ hy)]
    unfold putV
    rw [if_neg (h x (List.mem_cons_self ..))]
theorem DkV.keys : ∀ {xs : Dks} {ys : List (NestedKey × Addr × Value)}, DkV xs ys → xs.map (·.1) = ys.map (·.1)
  | _, _, .nil => rfl
  | _, _, .cons p q => by rw [List.map_cons, List.map_cons, p.1, DkV.keys q]
theorem DkV.len {xs : Dks} {ys : List (NestedKey × Addr × Value)} (h : DkV xs ys) : xs.length = ys.length := Paired.length h
theorem DkV.map_put {k : NestedKey} {v : V} {u : Value} (r : RelV v u) : ∀ {xs : Dks} {ys : List (NestedKey × Addr × Value)}, DkV xs ys → DkV (xs.map (putV k v)) (ys.map (putAt k u))
  | _, _, .nil => .nil
  | _, _, .cons (a := x) (b := y) p q => by
    refine .cons ?_ (DkV.map_put r q)
    unfold putV putAt
    rw [p.1]
    by_cases h : y.1 = k
    · rw [if_pos h, if_pos h]; exact ⟨rfl, p.2.1, r⟩
    · rw [if_neg h, if_neg h]; exact p
theorem DkV.snoc {x : NestedKey × Addr × V} {y : NestedKey × Addr × Value} (r : x.1 = y.1 ∧ x.2.1 = y.2.1 ∧ RelV x.2.2 y.2.2) : ∀ {xs : Dks} {ys : List (NestedKey × Addr × Value)}, DkV xs ys → DkV (xs ++ [x]) (ys ++ [y])
  | _, _, .nil => .cons r .nil
  | _, _, .cons p q => .cons p (DkV.snoc r q)
theorem put_new {k : NestedKey} {kd vd : D} {ka : Addr} {v : V} (ho : keyOk kd = true) (hk : keyOf kd = some k) (r1 : Rp H w (.ref ka) kd) (r2 : Rp H w v vd) : ∀ {xs : Dks} {kvs : List (D × D)}, DkR H w xs kvs → (∀ x ∈ xs, x.1 ≠ k) → DkR H w (xs ++ [(k, ka, v)]) (setIx.putD kvs kd vd)
  | _, _, .nil, _ => .cons ho hk r1 r2 .nil
  | _, _, .cons (k := k') (kd := kd') a b q1 q2 t, h => by
    unfold setIx.putD
    rw [key_dec b hk, decide_eq_false (h _ (List.mem_cons_self ..))]
    simp only [Bool.false_eq_true, if_false]
    exact .cons a b q1 q2 (put_new ho hk r1 r2 t fun x hx => h x (List.mem_cons_of_mem _ hx))
theorem put_old {k : NestedKey} {kd vd : D} {v : V} (hk : keyOf kd = some k) (r2 : Rp H w v vd) : ∀ {xs : Dks} {kvs : List (D × D)}, DkR H w xs kvs → (xs.map (·.1)).Nodup → (∃ x ∈ xs, x.1 = k) → DkR H w (xs.map (putV k v)) (setIx.putD kvs kd vd)
  | _, _, .nil, _, h => by obtain ⟨x, hx, _⟩ := h; cases hx
  | _, _, .cons (k := k') (ka := ka') (v := v') (kd := kd') (xs := xs) a b q1 q2 t, nd, h => by
    rw [List.map_cons, List.nodup_cons] at nd
    unfold setIx.putD
    rw [key_dec b hk]
    by_cases e : k' = k
    · subst e
      simp only [decide_true, if_true]
      rw [List.map_cons, putV_off (xs := xs)]
      · unfold putV
        simp only [if_true]
        exact .cons a b q1 r2 t
      · intro x hx z
        exact nd.1 (List.mem_map.mpr ⟨x, hx, z⟩)
    · rw [decide_eq_false e]
      simp only [Bool.false_eq_true, if_false]
      rw [List.map_cons]
      have e1 : putV k v (k', ka', v') = (k', ka', v') := if_neg e
      rw [e1]
      refine .cons a b q1 q2 (put_old hk r2 t nd.2 ?_)
      obtain ⟨x, hx, z⟩ := h
      rcases List.mem_cons.mp hx with rfl | hx
      · exact absurd z e
      · exact ⟨x, hx, z⟩
theorem put_at {k : NestedKey} {kd vd : D} {ka : Addr} {v : V} {u : Value} {xs : Dks} {kvs : List (D × D)} {ys : List (NestedKey × Addr × Value)} (ho : keyOk kd = true) (hk : keyOf kd = some k) (r1 : Rp H w (.ref ka) kd) (r2 : Rp H w v vd) (rv : RelV v u) (r : DkR H w xs kvs) (q : DkV xs ys) (nd : (ys.map (·.1)).Nodup) :
    ∃ xs', DkV xs' (storedH ys k ka u) ∧ DkR H w xs' (setIx.putD kvs kd vd) ∧ xs'.length ≤ xs.length + 1 := by
  have ky := q.keys
  cases ha : atKey ys k with
  | none =>
    rw [storedH_new ha]
    refine ⟨xs ++ [(k, ka, v)], q.snoc ⟨rfl, rfl, rv⟩, put_new ho hk r1 r2 r fun x hx e => ?_, by simp⟩
    unfold atKey at ha
    rw [Option.map_eq_none_iff, List.find?_eq_none] at ha
    have hm : x.1 ∈ ys.map (·.1) := by rw [← ky]; exact List.mem_map.mpr ⟨x, hx, rfl⟩
    obtain ⟨y, hy, e2⟩ := List.mem_map.mp hm
    exact ha y hy (by rw [e2, e]; simp)
  | some p =>
    rw [storedH_old ha]
    refine ⟨xs.map (putV k v), q.map_put rv, put_old hk r2 r (by rw [ky]; exact nd) ?_, by simp⟩
    unfold atKey at ha
    obtain ⟨y, hy, _⟩ := Option.map_eq_some_iff.mp ha
    have hy2 := List.find?_some hy
    have hm : y.1 ∈ xs.map (·.1) := by rw [ky]; exact List.mem_map.mpr ⟨y, List.mem_of_find?_eq_some hy, rfl⟩
    obtain ⟨x, hx, e2⟩ := List.mem_map.mp hm
    exact ⟨x, hx, by rw [e2]; simpa using hy2⟩
theorem DkR.len : ∀ {xs : Dks} {kvs : List (D × D)}, DkR H w xs kvs → xs.length = kvs.length
  | _, _, .nil => rfl
  | _, _, .cons _ _ _ _ t => by rw [List.length_cons, List.length_cons, t.len]
end
/-! ### in the heap -/
section
variable {X : Cx} {pins : List (Addr × Obj)} {σ : L2.St} {H : Hp} {s : Shared} {w : Wl c} {a : Addr} {xs : Dks} {kvs : List (D × D)}
theorem keyOk_inv {d : D} (h : keyOk d = true) : ∃ k, keyOf d = some k ∧ d.depth ≤ 8 ∧ ∃ ds, d = .tuple ds := by
  unfold keyOk at h
  simp only [Bool.and_eq_true, decide_eq_true_eq] at h
  obtain ⟨k, hk⟩ := Option.isSome_iff_exists.mp h.1.2
  refine ⟨k, hk, h.2, ?_⟩
  cases d <;> first | (cases h.1.1; done) | exact ⟨_, rfl⟩
theorem keys_is (I : Inv X pins σ H s) : ∀ {xs : Dks} {kvs : List (D × D)} {ys : List (NestedKey × Addr × Value)}, DkR H w xs kvs → DkV xs ys → ∀ y ∈ ys, (nestedKind X.prog X.w).is s.heap y.1 y.2.1
  | _, _, _, .nil, .nil, y, hy => by cases hy
  | _, _, _, .cons a b r1 r2 t, .cons p q, y, hy => by
    rcases List.mem_cons.mp hy with rfl | hy
    · obtain ⟨z1, z2⟩ := nest_of I _ b r1 rfl
      obtain ⟨_, _, hd, _⟩ := keyOk_inv a
      rw [← p.1, ← p.2.1]
      exact ⟨z1, Nat.le_trans z2 hd⟩
    · exact keys_is I t q y hy
theorem dct_at (hw : X.w = c.wd) (I : Inv X pins σ H s) (ha : H a = some (DcO c.wd a xs)) (r : DkR H w xs kvs) : (a == sysModules) = false ∧ xs.length ≤ sizeLine ∧ ∃ ys, DkV xs ys ∧ (ys.map (·.1)).Nodup ∧ s.heap.DictOfH (nestedKind X.prog X.w) a ys := by
  obtain ⟨⟨h1, h2, ys, h3, h4, o, es, ep, e1, e2, e3, e4⟩, _, _⟩ := I.hok a _ ha
  refine ⟨h1, h2, ys, h3, h4, o, es, ep, e1, e2, e3, ?_, keys_is I r h3, h4⟩
  rw [e4, ← hw]
  rfl
theorem dcO_ok {P : Program} {W : World} {h : Heap} {ys : List (NestedKey × Addr × Value)} (h1 : (a == sysModules) = false) (h2 : xs.length ≤ sizeLine) (h3 : DkV xs ys) (h : h.DictOfH (nestedKind P W) a ys) : ObjOk P W H ‹Heap› a (DcO W a xs) := by
  obtain ⟨o, es, ep, e1, e2, e3, e4, _, nd⟩ := h
  refine ⟨⟨h1, h2, ys, h3, nd, o, es, ep, e1, e2, e3, e4⟩, ⟨o, e1⟩, fun g1 g2 q k => ?_⟩
  obtain ⟨a1, a2, zs, a3, a4, o2, es2, ep2, b1, b2, b3, b4⟩ := q
  exact ⟨a1, a2, zs, a3, a4, o2, es2, ep2, k _ b1, b2, b3, b4⟩
end
end MP
end

section
set_option Elab.async false
set_option linter.all false
set_option maxRecDepth 100000
set_option maxHeartbeats 4000000
set_option autoImplicit false
namespace MP
open PySem L2 PySem.Spec PyProof.Rows
theorem big_eq : big = sizeLine := by decide
section
variable {X : Cx} {fi : Bool} {c : Cfg} {W : WX} {σ : L2.St}
/-! ### + -/
theorem op_addD : OpR X (binaryOp .Add) (rOp fi c W σ fun S a b => binD S .add a b) := by
  refine OpR.imp (r := fun x y H Q => (rI0 fun i j => .int (i + j)) x y H Q ∨ rCat x y H Q ∨ rCatA X.K x y H Q ∨ (∃ i j, x = .str i ∧ y = .str j ∧ i.length + j.length ≤ sizeLine ∧ Q (.str (i ++ j)) H)) (op_add.or (op_cat.or (op_catA.or op_add_str))) ?_
  rintro x y H Q ⟨w, d, e, k, rd, re, o⟩
  simp only [binD, addD] at o
  split at o
  · rename_i xs ys h1 h2
    obtain ⟨hb, o⟩ := o.okI
    obtain ⟨a, us, rfl, ha, ra⟩ := viewL_rp k h1 rd
    obtain ⟨b, vs, rfl, hb', rb⟩ := viewL_rp k h2 re
    refine .inr (.inl ⟨a, b, us, vs, rfl, rfl, ha, hb', ?_, fun p hp => o.newL k (ra.append rb) hp⟩)
    rw [ra.length, rb.length, ← big_eq]
    exact of_decide_eq_true hb
  · split at o
    · cases rd; cases re
      exact .inl ⟨_, _, rfl, rfl, o.val k (.int _)⟩
    · obtain ⟨hb, o⟩ := o.okI
      obtain ⟨a, us, rfl, ha, ra⟩ := rd.tup_inv
      obtain ⟨b, vs, rfl, hb', rb⟩ := re.tup_inv
      have hz : us.length + vs.length ≤ sizeLine := by
        rw [ra.length, rb.length, ← big_eq]
        exact of_decide_eq_true hb
      refine .inr (.inr (.inl ⟨a, b, us, vs, rfl, rfl, SqT.of ha, SqT.of hb', hz, ?_, ?_, ?_⟩))
      · intro e1
        subst e1
        cases ra
        exact o.val k (.tup hb' rb)
      · intro e1 e2
        subst e2
        cases rb
        rw [List.append_nil] at o
        exact o.val k (.tup ha ra)
      · intro e1 e2 p hp
        exact o.newT k (ra.append rb) hp
    · obtain ⟨hb, o⟩ := o.okI
      cases rd; cases re
      exact .inr (.inr (.inr ⟨_, _, rfl, rfl, by rw [← big_eq]; exact of_decide_eq_true hb, o.val k (.str _)⟩))
    · exact o.elim

/-! ### the other operators of numbers; lists times a number -/
theorem RpAll.rep {H : Hp} {w : Wl c} {xs : List V} {ds : List D} (r : RpAll H w xs ds) : ∀ n : Nat, RpAll H w (List.replicate n xs).flatten (repL ds n)
  | 0 => .nil
  | n + 1 => by
    rw [List.replicate_succ, List.flatten_cons]
    exact r.append (RpAll.rep r n)
theorem op_subD : OpR X (binaryOp .Sub) (rOp fi c W σ fun S a b => binD S .sub a b) := by
  refine OpR.imp op_sub ?_
  rintro x y H Q ⟨w, d, e, k, rd, re, o⟩
  simp only [binD] at o
  split at o
  all_goals first | (exact o.elim) | skip
  all_goals try contradiction
  cases rd; cases re
  exact ⟨_, _, rfl, rfl, o.val k (.int _)⟩
theorem op_mulD : OpR X (binaryOp .Mult) (rOp fi c W σ fun S a b => binD S .mul a b) := by
  refine OpR.imp (op_mul.or op_rep) ?_
  rintro x y H Q ⟨w, d, e, k, rd, re, o⟩
  simp only [binD, mulD] at o
  split at o
  · obtain ⟨hb, o⟩ := o.okI
    cases rd; cases re
    refine .inl ⟨_, _, rfl, rfl, ?_, o.val k (.int _)⟩
    simp only [small, Bool.or_eq_true, Bool.and_eq_true, decide_eq_true_eq] at hb
    exact hb
  · split at o
    · rename_i xs h1
      obtain ⟨hb, o⟩ := o.okI
      obtain ⟨a, us, rfl, ha, ra⟩ := viewL_rp k h1 rd
      cases re
      simp only [Bool.and_eq_true, decide_eq_true_eq] at hb
      refine .inr ⟨a, _, us, rfl, rfl, ha, hb.1.1, hb.1.2, ?_, fun p hp => o.newL k (ra.rep _) hp⟩
      rw [ra.length, ← big_eq]
      exact hb.2
    · exact o.elim
  · exact o.elim
theorem op_fdivD : OpR X (binaryOp .FloorDiv) (rOp fi c W σ fun S a b => binD S .fdiv a b) := by
  refine OpR.imp op_fdiv ?_
  rintro x y H Q ⟨w, d, e, k, rd, re, o⟩
  simp only [binD] at o
  split at o
  all_goals first | (exact o.elim) | skip
  all_goals try contradiction
  obtain ⟨hb, o⟩ := o.okI
  cases rd; cases re
  simp only [Bool.and_eq_true, decide_eq_true_eq] at hb
  exact ⟨_, _, rfl, rfl, hb, o.val k (.int _)⟩
theorem op_modD : OpR X (binaryOp .Mod) (rOp fi c W σ fun S a b => binD S .mod a b) := by
  refine OpR.imp op_mod ?_
  rintro x y H Q ⟨w, d, e, k, rd, re, o⟩
  simp only [binD] at o
  split at o
  all_goals first | (exact o.elim) | skip
  all_goals try contradiction
  obtain ⟨hb, o⟩ := o.okI
  cases rd; cases re
  exact ⟨_, _, rfl, rfl, of_decide_eq_true hb, o.val k (.int _)⟩
theorem op_powD : OpR X (binaryOp .Pow) (rOp fi c W σ fun S a b => binD S .pow a b) := by
  refine OpR.imp op_pow ?_
  rintro x y H Q ⟨w, d, e, k, rd, re, o⟩
  simp only [binD] at o
  split at o
  all_goals first | (exact o.elim) | skip
  all_goals try contradiction
  obtain ⟨hb, o⟩ := o.okI
  cases rd; cases re
  simp only [Bool.and_eq_true, decide_eq_true_eq] at hb
  exact ⟨_, _, rfl, rfl, ⟨hb.1.1, hb.1.2, hb.2⟩, o.val k (.int _)⟩

/-! ### comparisons -/
theorem dp_reads {pins : List (Addr × Obj)} {s : Shared} {σ : L2.St} {H : Hp} (I : Inv X pins σ H s) {d : D} {v : V} {u : Value} (h : Dp X.K H v d) (r : RelV v u) : ∃ as, Reads s.heap u d as := Dp.reads I d v u h r
theorem eqX_dp {K : PySem.W.Frag} {H : Hp} {w : Wl c} {x y : V} {d e : D} {b : Bool} (k : Wok H w) (rd : Rp H w x d) (re : Rp H w y e) (h : eqX w.S d e = some b) :
    ∃ d' e', Dp K H x d' ∧ Dp K H y e' ∧ d'.plain = true ∧ e'.plain = true ∧ d'.depth ≤ 9 ∧ PyData.eqv d' e' = b := by
  unfold eqX at h
  split at h
  · rename_i ds
    split at h
    · rename_i es h1
      cases h
      obtain ⟨a, o, us, rfl, h2, h3⟩ := rd.scr_inv
      obtain ⟨q1, q2, q3⟩ := rz_dpAll (K := K) k 8 h1 h3
      obtain ⟨a2, us2, rfl, h4, _, h5⟩ := re.lst_inv
      cases h5
      refine ⟨.list es, .list [], .lst (.inl (.inr ⟨o, h2⟩)) q1, .lst (SqL.of h4) .nil, by simpa [PyData.plain] using q2, rfl, by simp only [PyData.depth]; omega, ?_⟩
      have hl := (mapO_all h1).1
      cases es <;> cases ds <;> simp_all [PyData.eqv, PyData.eqvAll]
    · cases h
  · unfold eqD at h
    split at h
    · rename_i x' y' h1 h2
      cases h
      obtain ⟨p1, p2, p3⟩ := rz_dp (K := K) k 8 h1 rd
      obtain ⟨q1, q2, q3⟩ := rz_dp (K := K) k 8 h2 re
      exact ⟨x', y', p1, q1, p2, q2, by omega, rfl⟩
    · cases h
theorem op_eqP (hu : X.A.units + 64 < cLine) : OpR X (compareOp .Eq) (rOp fi c W σ fun S a b => cmpR S .eq a b) := by
  intro pins s σ' H x y v u Q I rx ry h
  obtain ⟨w, d, e, k, rd, re, o⟩ := h
  obtain ⟨b, hb, q⟩ := o.cmp k
  obtain ⟨d', e', p1, p2, p3, p4, p5, rfl⟩ := eqX_dp (K := X.K) k rd re hb
  obtain ⟨as, r1⟩ := dp_reads I p1 rx
  obtain ⟨bs, r2⟩ := dp_reads I p2 ry
  exact SeqAt.eq_plain r1 r2 p3 p4 (by omega) ⟨.bl _, H, I, rfl, q⟩
theorem op_neP (hu : X.A.units + 64 < cLine) : OpR X (compareOp .NotEq) (rOp fi c W σ fun S a b => cmpR S .ne a b) := by
  intro pins s σ' H x y v u Q I rx ry h
  obtain ⟨w, d, e, k, rd, re, o⟩ := h
  obtain ⟨b, hb, q⟩ := o.cmp k
  simp only [cmpD, Option.map_eq_some_iff] at hb
  obtain ⟨b', hb, rfl⟩ := hb
  obtain ⟨d', e', p1, p2, p3, p4, p5, rfl⟩ := eqX_dp (K := X.K) k rd re hb
  obtain ⟨as, r1⟩ := dp_reads I p1 rx
  obtain ⟨bs, r2⟩ := dp_reads I p2 ry
  exact SeqAt.ne_plain r1 r2 p3 p4 (by omega) ⟨.bl _, H, I, rfl, q⟩
theorem ltD_dp {K : PySem.W.Frag} {H : Hp} {w : Wl c} {x y : V} {d e : D} {b : Bool} (k : Wok H w) (rd : Rp H w x d) (re : Rp H w y e) (h : ltD w.S d e = some b) :
    (∃ i j, x = .int i ∧ y = .int j ∧ b = decide (i < j)) ∨ ∃ d' e', Dp K H x d' ∧ Dp K H y e' ∧ PySem.W.alike d' e' = true ∧ d' ≠ .none ∧ e' ≠ .none ∧ d'.depth ≤ 8 ∧ e'.depth ≤ 8 ∧ PySem.W.dataLt d' e' = b := by
  unfold ltD at h
  split at h
  · cases h; cases rd; cases re
    exact .inl ⟨_, _, rfl, rfl, rfl⟩
  · split at h
    · rename_i x' y' h1 h2
      split at h
      · rename_i hc
        cases h
        simp only [Bool.and_eq_true] at hc
        obtain ⟨p1, p2, p3⟩ := rz_dp (K := K) k 8 h1 rd
        obtain ⟨q1, q2, q3⟩ := rz_dp (K := K) k 8 h2 re
        have n1 : x' ≠ .none := fun z => by subst z; simp [isSeq] at hc
        exact .inr ⟨x', y', p1, q1, hc.1, n1, PySem.W.ne_none_both hc.1 n1, p3, q3, rfl⟩
      · cases h
    · cases h
theorem op_ltP (hu : X.A.units + 64 < cLine) : OpR X (compareOp .Lt) (rOp fi c W σ fun S a b => cmpR S .lt a b) := by
  intro pins s σ' H x y v u Q I rx ry h
  obtain ⟨w, d, e, k, rd, re, o⟩ := h
  obtain ⟨b, hb, q⟩ := o.cmp k
  rcases ltD_dp (K := X.K) k rd re hb with ⟨i, j, rfl, rfl, rfl⟩ | ⟨d', e', p1, p2, p3, p4, _, p5, _, rfl⟩
  · exact op_lt pins s σ' H _ _ v u Q I rx ry ⟨i, j, rfl, rfl, q⟩
  · obtain ⟨as, r1⟩ := dp_reads I p1 rx
    obtain ⟨bs, r2⟩ := dp_reads I p2 ry
    exact PySem.W.lt_data r1 r2 p3 p4 (by omega) ⟨.bl _, H, I, rfl, q⟩
theorem op_gtP (hu : X.A.units + 64 < cLine) : OpR X (compareOp .Gt) (rOp fi c W σ fun S a b => cmpR S .gt a b) := by
  intro pins s σ' H x y v u Q I rx ry h
  obtain ⟨w, d, e, k, rd, re, o⟩ := h
  obtain ⟨b, hb, q⟩ := o.cmp k
  rcases ltD_dp (K := X.K) k re rd hb with ⟨i, j, rfl, rfl, rfl⟩ | ⟨d', e', p1, p2, p3, _, p4, p5, p6, rfl⟩
  · exact op_gt pins s σ' H _ _ v u Q I rx ry ⟨j, i, rfl, rfl, q⟩
  · obtain ⟨as, r1⟩ := dp_reads I p1 ry
    obtain ⟨bs, r2⟩ := dp_reads I p2 rx
    exact PySem.W.gt_data r2 r1 (by rw [PySem.W.alike_comm]; exact p3) p4 (by omega) ⟨.bl _, H, I, rfl, q⟩
theorem op_leP : OpR X (compareOp .LtE) (rOp fi c W σ fun S a b => cmpR S .le a b) := by
  refine OpR.imp op_le ?_
  rintro x y H Q ⟨w, d, e, k, rd, re, o⟩
  obtain ⟨b, hb, q⟩ := o.cmp k
  simp only [cmpD] at hb
  split at hb
  · cases hb; cases rd; cases re
    exact ⟨_, _, rfl, rfl, q⟩
  · cases hb
theorem op_geP : OpR X (compareOp .GtE) (rOp fi c W σ fun S a b => cmpR S .ge a b) := by
  refine OpR.imp op_ge ?_
  rintro x y H Q ⟨w, d, e, k, rd, re, o⟩
  obtain ⟨b, hb, q⟩ := o.cmp k
  simp only [cmpD] at hb
  split at hb
  · cases hb; cases rd; cases re
    exact ⟨_, _, rfl, rfl, q⟩
  · cases hb
theorem isD_ok {H : Hp} {w : Wl c} {x y : V} {d e : D} {b : Bool} (rd : Rp H w x d) (re : Rp H w y e) (h : isD d e = some b) : (y = .non ∧ b = decide (x = .non)) ∨ ∃ i j : Bool, x = .bl i ∧ y = .bl j ∧ b = decide (i = j) := by
  unfold isD at h
  split at h
  · cases re
    refine .inl ⟨rfl, ?_⟩
    cases h
    cases rd <;> simp
  · split at h
    · cases h; cases rd; cases re
      exact .inr ⟨_, _, rfl, rfl, rfl⟩
    · cases h
  · cases h
theorem op_isP : OpR X (compareOp .Is) (rOp fi c W σ fun S a b => cmpR S .is a b) := by
  refine OpR.imp (op_isN.or op_isBl) ?_
  rintro x y H Q ⟨w, d, e, k, rd, re, o⟩
  obtain ⟨b, hb, q⟩ := o.cmp k
  rcases isD_ok rd re hb with ⟨h1, rfl⟩ | ⟨i, j, rfl, rfl, rfl⟩
  · exact .inl ⟨h1, q⟩
  · exact .inr ⟨i, j, rfl, rfl, q⟩
theorem op_isnotP : OpR X (compareOp .IsNot) (rOp fi c W σ fun S a b => cmpR S .isnot a b) := by
  refine OpR.imp (op_notN.or op_notBl) ?_
  rintro x y H Q ⟨w, d, e, k, rd, re, o⟩
  obtain ⟨b, hb, q⟩ := o.cmp k
  simp only [cmpD, Option.map_eq_some_iff] at hb
  obtain ⟨b', hb, rfl⟩ := hb
  rcases isD_ok rd re hb with ⟨h1, rfl⟩ | ⟨i, j, rfl, rfl, rfl⟩
  · exact .inl ⟨h1, q⟩
  · exact .inr ⟨i, j, rfl, rfl, q⟩

theorem in_dp {K : PySem.W.Frag} {H : Hp} {w : Wl c} {x y : V} {d e : D} {b : Bool} (k : Wok H w) (rd : Rp H w x d) (re : Rp H w y e) (h : inD w.S d e = some b) :
    (∃ ch z, x = .str ⟨#[ch]⟩ ∧ y = .str z ∧ b = decide (ch ∈ z.cps.toList)) ∨ (∃ d' e' ys, Dp K H x d' ∧ Dp K H y e' ∧ d'.plain = true ∧ PyData.plainAll ys = true ∧ d'.depth ≤ 8 ∧ (e' = .list ys ∨ e' = .tuple ys) ∧ b = ys.any (fun q => PyData.eqv q d')) ∨ ∃ a xs kvs, y = .ref a ∧ H a = some (DcO c.wd a xs) ∧ DkR H w xs kvs ∧ keyOk d = true ∧ b = (find kvs d).isSome := by
  unfold inD at h
  split at h
  · split at h
    · rename_i z
      split at h
      · rename_i ch hz
        cases h
        refine .inl ⟨ch, _, ?_, re.str_inv, rfl⟩
        rw [rd.str_inv]
        obtain ⟨⟨l⟩⟩ := z
        simp only at hz
        subst hz
        rfl
      · cases h
    · cases h
  · split at h
    · rename_i ys hy
      simp only [Option.map_eq_some_iff] at h
      obtain ⟨x', hx, rfl⟩ := h
      obtain ⟨p1, p2, p3⟩ := rz_dp (K := K) k 8 hx rd
      obtain ⟨q1, q2, q3⟩ := rz_dp (K := K) k 8 hy re
      exact .inr (.inl ⟨x', _, ys, p1, q1, p2, by simpa [PyData.plain] using q2, p3, .inl rfl, rfl⟩)
    · rename_i ys hy
      simp only [Option.map_eq_some_iff] at h
      obtain ⟨x', hx, rfl⟩ := h
      obtain ⟨p1, p2, p3⟩ := rz_dp (K := K) k 8 hx rd
      obtain ⟨q1, q2, q3⟩ := rz_dp (K := K) k 8 hy re
      exact .inr (.inl ⟨x', _, ys, p1, q1, p2, by simpa [PyData.plain] using q2, p3, .inr rfl, rfl⟩)
    · split at h
      · rename_i n e
        have := asRef_eq e
        subst this
        split at h
        · rename_i kvs q
          obtain ⟨a, rfl, ha⟩ := re.ref_inv
          obtain ⟨xs, h1, h2⟩ := k.obj n a _ ha q
          split at h
          · rename_i hk
            cases h
            exact .inr (.inr ⟨a, xs, kvs, rfl, h1, h2, hk, rfl⟩)
          · cases h
        · cases h
      · cases h
theorem find_some {H : Hp} {w : Wl c} {k : NestedKey} {kd : D} {xs : Dks} {kvs : List (D × D)} {ys : List (NestedKey × Addr × Value)} (hk : keyOf kd = some k) (r : DkR H w xs kvs) (q : DkV xs ys) : (atKey ys k).isSome = (find kvs kd).isSome := by
  obtain ⟨f1, f2⟩ := find_at hk r q
  cases e : find kvs kd with
  | none => rw [f1 e]; rfl
  | some vd =>
    obtain ⟨_, _, _, z, _⟩ := f2 vd e
    rw [z]; rfl
theorem op_inP (hw : X.w = c.wd) (hu : X.A.units + 64 < cLine) : OpR X (compareOp .In) (rOp fi c W σ fun S a b => cmpR S .isin a b) := by
  intro pins s σ' H x y v u Q I rx ry h
  obtain ⟨w, d, e, k, rd, re, o⟩ := h
  obtain ⟨b, hb, q⟩ := o.cmp k
  rcases in_dp (K := X.K) k rd re hb with ⟨ch, z, rfl, rfl, rfl⟩ | ⟨d', e', ys, p1, p2, p3, p4, p5, p6, rfl⟩ | ⟨a, xs, kvs, rfl, ha, r, hk, rfl⟩
  · exact op_in_sign pins s σ' H _ _ v u Q I rx ry ⟨ch, z, rfl, rfl, q⟩
  · obtain ⟨as, r1⟩ := dp_reads I p1 rx
    obtain ⟨bs, r2⟩ := dp_reads I p2 ry
    rcases p6 with rfl | rfl
    · exact SeqAt.in_list_data r2 r1 p4 p3 (by omega) ⟨.bl _, H, I, rfl, q⟩
    · exact SeqAt.in_tuple_data r2 r1 p4 p3 (by omega) ⟨.bl _, H, I, rfl, q⟩
  · obtain ⟨k0, hk0, hd, ds, rfl⟩ := keyOk_inv hk
    obtain ⟨b1, us, rfl, h1, h2⟩ := rd.tup_inv
    cases rx; cases ry
    obtain ⟨g1, g2, ys, g3, g4, g5⟩ := dct_at hw I ha r
    obtain ⟨n1, n2⟩ := nest_of I _ hk0 rd rfl
    rw [← find_some hk0 r g3] at q
    exact wpAny_in_heap (knd := nestedKind X.prog X.w) (k := k0) (by show X.A.units + 1 + 8 < cLine; omega) ⟨n1, by omega⟩ g1 g5 ⟨.bl _, H, I.tok _, rfl, q⟩
theorem op_notinP (hw : X.w = c.wd) (hu : X.A.units + 64 < cLine) : OpR X (compareOp .NotIn) (rOp fi c W σ fun S a b => cmpR S .notin a b) := by
  intro pins s σ' H x y v u Q I rx ry h
  obtain ⟨w, d, e, k, rd, re, o⟩ := h
  obtain ⟨b, hb, q⟩ := o.cmp k
  simp only [cmpD, Option.map_eq_some_iff] at hb
  obtain ⟨b', hb, rfl⟩ := hb
  rcases in_dp (K := X.K) k rd re hb with ⟨ch, z, rfl, rfl, rfl⟩ | ⟨d', e', ys, p1, p2, p3, p4, p5, p6, rfl⟩ | ⟨a, xs, kvs, rfl, ha, r, hk, rfl⟩
  · exact op_notIn_sign pins s σ' H _ _ v u Q I rx ry ⟨ch, z, rfl, rfl, q⟩
  · obtain ⟨as, r1⟩ := dp_reads I p1 rx
    obtain ⟨bs, r2⟩ := dp_reads I p2 ry
    rcases p6 with rfl | rfl
    · exact SeqAt.notIn_list_data r2 r1 p4 p3 (by omega) ⟨.bl _, H, I, rfl, q⟩
    · exact SeqAt.notIn_tuple_data r2 r1 p4 p3 (by omega) ⟨.bl _, H, I, rfl, q⟩
  · obtain ⟨k0, hk0, hd, ds, rfl⟩ := keyOk_inv hk
    obtain ⟨b1, us, rfl, h1, h2⟩ := rd.tup_inv
    cases rx; cases ry
    obtain ⟨g1, g2, ys, g3, g4, g5⟩ := dct_at hw I ha r
    obtain ⟨n1, n2⟩ := nest_of I _ hk0 rd rfl
    rw [← find_some hk0 r g3] at q
    refine notIn_keyed (knd := nestedKind X.prog X.w) (k := k0) (by show X.A.units + 1 + 8 < cLine; omega) ⟨n1, by omega⟩ g1 ⟨ys, g5, rfl⟩ ⟨.bl _, H, I.tok _, rfl, ?_⟩
    rw [valueAt_pairsH, Option.isSome_map]
    exact q
end
end MP
end

section
set_option Elab.async false
set_option linter.all false
set_option maxRecDepth 100000
set_option maxHeartbeats 4000000
set_option autoImplicit false
namespace MP
open PySem L2 PySem.Spec PyProof.Rows
variable {c : Cfg}
/-! plain data stand for themselves -/
mutual
theorem pl_dp {K : PySem.W.Frag} {H : Hp} {w : Wl c} : ∀ (d : D) {v : V}, d.plain = true → Rp H w v d → Dp K H v d
  | .none, _, _, r => by cases r; exact .non
  | .bool b, _, _, r => by cases r; exact .bl b
  | .int b, _, _, r => by cases r; exact .int b
  | .str b, _, _, r => by cases r; exact .str b
  | .list xs, _, h, r => by
    obtain ⟨a, us, rfl, h1, _, h2⟩ := r.lst_inv
    exact .lst (SqL.of h1) (pl_dpAll xs (by simpa [PyData.plain] using h) h2)
  | .tuple xs, _, h, r => by
    obtain ⟨a, us, rfl, h1, h2⟩ := r.tup_inv
    exact .tup (SqT.of h1) (pl_dpAll xs (by simpa [PyData.plain] using h) h2)
  | .dict _, _, h, _ => by cases h
theorem pl_dpAll {K : PySem.W.Frag} {H : Hp} {w : Wl c} : ∀ (ds : List D) {vs : List V}, PyData.plainAll ds = true → RpAll H w vs ds → DpAll K H vs ds
  | [], _, _, r => by cases r; exact .nil
  | d :: ds, _, h, r => by
    cases r with
    | cons r1 r2 =>
      simp only [PyData.plainAll, Bool.and_eq_true] at h
      exact .cons (pl_dp d h.1 r1) (pl_dpAll ds h.2 r2)
end
theorem pure8_all {xs : List D} (h : xs.all pure8 = true) : PyData.plainAll xs = true ∧ PyData.depthAll xs ≤ 8 := by
  induction xs with
  | nil => exact ⟨rfl, Nat.zero_le _⟩
  | cons x xs ih =>
    simp only [List.all_cons, Bool.and_eq_true, pure8, decide_eq_true_eq] at h
    obtain ⟨⟨h1, h2⟩, h3⟩ := h
    obtain ⟨i1, i2⟩ := ih (by simpa [pure8] using h3)
    exact ⟨by simp [PyData.plainAll, h1, i1], by simp only [PyData.depthAll]; omega⟩
theorem RpAll.one {H : Hp} {w : Wl c} {vs : List V} {d : D} (r : RpAll H w vs [d]) : ∃ v, vs = [v] ∧ Rp H w v d := by
  cases r with | cons h t => cases t; exact ⟨_, rfl, h⟩
theorem RpAll.two {H : Hp} {w : Wl c} {vs : List V} {d e : D} (r : RpAll H w vs [d, e]) : ∃ v u, vs = [v, u] ∧ Rp H w v d ∧ Rp H w u e := by
  cases r with | cons h t => obtain ⟨u, rfl, h2⟩ := t.one; exact ⟨_, u, rfl, h, h2⟩
theorem RpAll.three {H : Hp} {w : Wl c} {vs : List V} {d e f : D} (r : RpAll H w vs [d, e, f]) : ∃ v u z, vs = [v, u, z] ∧ Rp H w v d ∧ Rp H w u e ∧ Rp H w z f := by
  cases r with | cons h t => obtain ⟨u, z, rfl, h2, h3⟩ := t.two; exact ⟨_, u, z, rfl, h, h2, h3⟩
theorem ints_rp {H : Hp} {w : Wl c} : ∀ {ds : List D} {vs : List V} {ns : List Int}, mapO asInt ds = some ns → RpAll H w vs ds → vs = ns.map V.int
  | [], _, _, h, r => by cases h; cases r; rfl
  | d :: ds, _, _, h, r => by
    unfold mapO at h
    split at h
    · rename_i y hy
      split at h
      · rename_i zs hz
        cases h
        cases r with
        | cons r1 r2 =>
          rw [List.map_cons, ints_rp hz r2]
          cases d <;> simp [asInt] at hy
          subst hy
          rw [r1.int_inv]
      · cases h
    · cases h
theorem truA_all : ∀ {ds : List D} {bs : List Bool}, mapO truA ds = some bs → PyData.plainAll ds = true ∧ (∀ x ∈ ds, x.fits63) ∧ ds.map PyData.truthy = bs
  | [], _, h => by cases h; exact ⟨rfl, fun _ h => (nomatch h), rfl⟩
  | d :: ds, _, h => by
    unfold mapO at h
    split at h
    · rename_i y hy
      split at h
      · rename_i zs hz
        cases h
        obtain ⟨h1, h2, h3⟩ := truA_all hz
        cases d <;> simp only [truA, Option.some.injEq, reduceCtorEq] at hy
        all_goals
          refine ⟨by simp [PyData.plainAll, PyData.plain, h1], fun x hx => ?_, by rw [List.map_cons, h3, ← hy]; rfl⟩
          rcases List.mem_cons.mp hx with rfl | hx
          · exact trivial
          · exact h2 x hx
      · cases h
    · cases h
section
variable {prog : Program} {w : World} {A : Around} {E : Value → Shared → Prop} {s : Shared} {l : Addr} {its : List Value} {ns : List Int} {Q : Value → Shared → Prop}
theorem sum_tup (hh : A.handled = none) (hl : s.heap.IsTuple l its.toArray) (hi : IntsAre its ns)
    (h : ∀ h' tk t', (∀ b o, s.heap.get? b = some o → h'.get? b = some o) → Q (.int ns.sum t') { s with heap := h', toks := tk }) : wpAny (model prog w) A (call (.builtin "sum") [.ref l]) Q E s := by
  obtain ⟨xs, e⟩ := hi.allInts.items
  have hn : numsOf (intItems xs).toList = ns := by rw [← e]; exact hi.numsOf
  rw [nums_intItems] at hn
  rw [e] at hl
  have hlt : l < s.heap.objs.size := by obtain ⟨_, e, _⟩ := hl; exact Heap.lt_size e
  refine call_sum_walkG (wpAny_pyIter_tuple hl ?_)
  refine ⟨_, _, _, _, _, _, numAt xs, rfl, Walks.tuple (A := A.in1) hh _ l (Nat.ne_of_lt hlt) (intItems xs), ⟨⟨_, Heap.get?_push_size _ rfl, rfl, rfl⟩, hl.push _⟩, fun b hb => ?_, (fun _ _ => intItems_at), fun h' tk t' hk => ?_⟩
  · show b < (s.heap.push _).objs.size
    rw [Heap.size_push]
    rcases List.mem_cons.mp hb with rfl | hb
    · exact Nat.lt_succ_self _
    · rcases List.mem_cons.mp hb with rfl | hb
      · exact Nat.lt_succ_of_lt hlt
      · cases hb
  · have := h h' tk t' (fun b o e => by
      refine hk b o (fun hm => ?_) (Heap.get?_push_of_some _ e)
      rcases List.mem_cons.mp hm with e1 | hm
      · exact absurd (e1 ▸ Heap.lt_size e) (Nat.lt_irrefl _)
      · cases hm)
    have hz : (intItems xs).size = xs.size := by simp [intItems]
    rw [hz, preSum_eq, List.take_of_length_le (by simp), hn]; exact this
end
section
variable {X : Cx} {fi : Bool} {c : Cfg} {W : WX} {σ : L2.St}
theorem cl_len : CallR X (.builtin "len") (rCl fi c W σ fun S as => primD S .len as) := by
  refine CallR.imp call_len ?_
  rintro xs H Q ⟨w, ds, k, r, o⟩
  simp only [primD] at o
  split at o
  all_goals try contradiction
  all_goals try (exact o.elim)
  · obtain ⟨hb, o⟩ := o.okI
    obtain ⟨v, rfl, r1⟩ := r.one
    cases r1
    exact ⟨_, _, rfl, ⟨by rw [← big_eq]; exact of_decide_eq_true hb, rfl⟩, o.val k (.int _)⟩
  · obtain ⟨d, hd, o⟩ := o.ofO
    simp only [Option.map_eq_some_iff] at hd
    obtain ⟨ys, hy, rfl⟩ := hd
    obtain ⟨v, rfl, r1⟩ := r.one
    obtain ⟨a, us, rfl, h1, h2⟩ := viewS_rp k hy r1
    refine ⟨_, us.length, rfl, ?_, by rw [h2.length]; exact o.val k (.int _)⟩
    rcases h1 with h1 | h1
    · exact .inl ⟨us, SqL.of h1, rfl⟩
    · exact .inr ⟨us, SqT.of h1, rfl⟩
theorem cl_sum (hc : X.calm = true) : CallR X (.builtin "sum") (rCl fi c W σ fun S as => primD S .sum as) := by
  intro pins s σ' H vs us Q I rv h
  obtain ⟨w, ds, k, r, o⟩ := h
  simp only [primD] at o
  split at o
  all_goals try contradiction
  all_goals try (exact o.elim)
  obtain ⟨d, hd, o⟩ := o.ofO
  simp only [Option.map_eq_some_iff, Option.bind_eq_some_iff] at hd
  obtain ⟨ns, ⟨ys, hy, hn⟩, rfl⟩ := hd
  obtain ⟨v, rfl, r1⟩ := r.one
  obtain ⟨a, zs, rfl, h1, h2⟩ := viewS_rp k hy r1
  have e := ints_rp hn h2
  subst e
  rcases h1 with h1 | h1
  · exact cr_sum hc pins s σ' H _ us Q I rv ⟨a, ns, rfl, SqL.of h1, o.val k (.int _)⟩
  · obtain ⟨its, rv2, ht, _⟩ := I.tuple (SqT.of (K := X.K) h1)
    obtain ⟨u, rfl, ru⟩ := vals1 rv
    cases ru
    exact sum_tup (I.ok.hd hc) ht rv2.ints fun h' tk t' hk => ⟨.int _, H, I.kept hk, ⟨_, rfl⟩, o.val k (.int _)⟩
theorem cl_any (hc : X.calm = true) : CallR X (.builtin "any") (rCl fi c W σ fun S as => primD S .any as) := by
  intro pins s σ' H vs us Q I rv h
  obtain ⟨w, ds, k, r, o⟩ := h
  simp only [primD] at o
  split at o
  all_goals try contradiction
  all_goals try (exact o.elim)
  obtain ⟨d, hd, o⟩ := o.ofO
  simp only [Option.map_eq_some_iff, Option.bind_eq_some_iff] at hd
  obtain ⟨bs, ⟨ys, hy, hn⟩, rfl⟩ := hd
  obtain ⟨v, rfl, r1⟩ := r.one
  obtain ⟨a, zs, rfl, h1, h2⟩ := viewS_rp k hy r1
  obtain ⟨p1, p2, rfl⟩ := truA_all hn
  obtain ⟨u, rfl, ru⟩ := vals1 rv
  cases ru
  have q : Q (.bl (ys.any PyData.truthy)) H := by
    have := o.val k (.bl _)
    simpa [List.any_map, Function.comp_def] using this
  rcases h1 with h1 | h1
  · obtain ⟨its, rv2, ht, _⟩ := I.list (SqL.of (K := X.K) h1)
    obtain ⟨as, hr⟩ := Dp.readsAll I ys zs its (pl_dpAll ys p1 h2) rv2
    exact PySem.W.any_list_data (I.ok.hd hc) ht.isList (by simpa using hr) p1 p2 fun h' tk hk => ⟨.bl _, H, I.kept hk, rfl, q⟩
  · obtain ⟨its, rv2, ht, _⟩ := I.tuple (SqT.of (K := X.K) h1)
    obtain ⟨as, hr⟩ := Dp.readsAll I ys zs its (pl_dpAll ys p1 h2) rv2
    exact PySem.W.any_tuple_data (I.ok.hd hc) ht (by simpa using hr) p1 p2 fun h' tk hk => ⟨.bl _, H, I.kept hk, rfl, q⟩
theorem cl_all (hc : X.calm = true) : CallR X (.builtin "all") (rCl fi c W σ fun S as => primD S .all as) := by
  intro pins s σ' H vs us Q I rv h
  obtain ⟨w, ds, k, r, o⟩ := h
  simp only [primD] at o
  split at o
  all_goals try contradiction
  all_goals try (exact o.elim)
  obtain ⟨d, hd, o⟩ := o.ofO
  simp only [Option.map_eq_some_iff, Option.bind_eq_some_iff] at hd
  obtain ⟨bs, ⟨ys, hy, hn⟩, rfl⟩ := hd
  obtain ⟨v, rfl, r1⟩ := r.one
  obtain ⟨a, zs, rfl, h1, h2⟩ := viewS_rp k hy r1
  obtain ⟨p1, p2, rfl⟩ := truA_all hn
  obtain ⟨u, rfl, ru⟩ := vals1 rv
  cases ru
  have q : Q (.bl (ys.all PyData.truthy)) H := by
    have := o.val k (.bl _)
    simpa [List.all_map, Function.comp_def] using this
  rcases h1 with h1 | h1
  · obtain ⟨its, rv2, ht, _⟩ := I.list (SqL.of (K := X.K) h1)
    obtain ⟨as, hr⟩ := Dp.readsAll I ys zs its (pl_dpAll ys p1 h2) rv2
    exact PySem.W.all_list_data (I.ok.hd hc) ht.isList (by simpa using hr) p1 p2 fun h' tk hk => ⟨.bl _, H, I.kept hk, rfl, q⟩
  · obtain ⟨its, rv2, ht, _⟩ := I.tuple (SqT.of (K := X.K) h1)
    obtain ⟨as, hr⟩ := Dp.readsAll I ys zs its (pl_dpAll ys p1 h2) rv2
    exact PySem.W.all_tuple_data (I.ok.hd hc) ht (by simpa using hr) p1 p2 fun h' tk hk => ⟨.bl _, H, I.kept hk, rfl, q⟩

theorem listOf_rp {H : Hp} {w : Wl c} {v : V} {d : D} {ds : List D} (k : Wok H w) (h : listOf w.S d = some ds) (r : Rp H w v d) : ∃ a xs, v = .ref a ∧ (SqL X.K H a xs ∨ SqT X.K H a xs) ∧ RpAll H w xs ds := by
  unfold listOf at h
  split at h
  · cases h
    obtain ⟨a, o, xs, rfl, h1, h2⟩ := r.scr_inv
    exact ⟨a, xs, rfl, .inl (.inl (.inr ⟨o, h1⟩)), h2⟩
  · obtain ⟨a, xs, rfl, h1, h2⟩ := viewS_rp k h r
    rcases h1 with h1 | h1
    · exact ⟨a, xs, rfl, .inl (SqL.of h1), h2⟩
    · exact ⟨a, xs, rfl, .inr (SqT.of h1), h2⟩
theorem cl_list : CallR X (.type "list") (rCl fi c W σ fun S as => primD S .list as) := by
  refine CallR.imp call_list_of ?_
  rintro xs H Q ⟨w, ds, k, r, o⟩
  simp only [primD] at o
  split at o
  all_goals try contradiction
  all_goals try (exact o.elim)
  obtain ⟨d, hd, o⟩ := o.ofO
  simp only [Option.map_eq_some_iff] at hd
  obtain ⟨ys, hy, rfl⟩ := hd
  obtain ⟨v, rfl, r1⟩ := r.one
  obtain ⟨a, us, rfl, h1, h2⟩ := listOf_rp (X := X) k hy r1
  exact ⟨a, us, rfl, h1, fun l hl => o.newL k h2 hl⟩
theorem cl_tuple : CallR X (.type "tuple") (rCl fi c W σ fun S as => primD S .tuple as) := by
  refine CallR.imp call_tuple_of ?_
  rintro xs H Q ⟨w, ds, k, r, o⟩
  simp only [primD] at o
  split at o
  all_goals try contradiction
  all_goals try (exact o.elim)
  obtain ⟨d, hd, o⟩ := o.ofO
  simp only [Option.map_eq_some_iff] at hd
  obtain ⟨ys, hy, rfl⟩ := hd
  obtain ⟨v, rfl, r1⟩ := r.one
  obtain ⟨a, us, rfl, h1, h2⟩ := viewS_rp k hy r1
  refine ⟨a, us, rfl, ?_⟩
  rcases h1 with h1 | h1
  · exact .inl ⟨SqL.of h1, fun l hl => o.newT k h2 hl⟩
  · exact .inr ⟨SqT.of h1, o.val k (.tup h1 h2)⟩
/-- isinstance(x, T), T a built-in class -/
def isiT : Prim → Option (String × (PyData → Bool))
  | .isint => some ("int", PyData.isInt)
  | .isbool => some ("bool", PyData.isBool)
  | .islist => some ("list", PyData.isList)
  | .istuple => some ("tuple", PyData.isTuple)
  | .isstr => some ("str", PyData.isStr)
  | _ => none
theorem isi_run {p : Prim} {T : String} {f : PyData → Bool} (h : isiT p = some (T, f)) {prog : Program} {w : World} {A : Around} {E : Value → Shared → Prop} {s : Shared} {v : Value} {d : PyData} {as : List Addr} {Q : Value → Shared → Prop}
    (r : Reads s.heap v d as) (q : ∀ tk, s.toks ≤ tk → Q (.bool (f d)) { s with toks := tk }) : wpAny (model prog w) A (call (.builtin "isinstance") [v, .type T]) Q E s := by
  cases p <;> simp only [isiT, Option.some.injEq, Prod.mk.injEq, reduceCtorEq] at h <;> obtain ⟨rfl, rfl⟩ := h
  · exact PySem.W.isinstance_int_data r q
  · exact PySem.W.isinstance_bool_data r q
  · exact PySem.W.isinstance_list_data r q
  · exact PySem.W.isinstance_tuple_data r q
  · exact PySem.W.isinstance_str_data r q
theorem isi_prim {p : Prim} {T : String} {f : PyData → Bool} (h : isiT p = some (T, f)) (S : Store) (as : List D) : primD S p as = (match as with
    | [a] => ofO ((rz S a).map fun x => .bool (f x)) S
    | _ => .bad) := by
  cases p <;> simp only [isiT, Option.some.injEq, Prod.mk.injEq, reduceCtorEq] at h <;> obtain ⟨rfl, rfl⟩ := h <;> (match as with
    | [] => rfl
    | [a] => cases a <;> rfl
    | _ :: _ :: _ => rfl)
theorem cl_isi {p : Prim} {T : String} {f : PyData → Bool} (h : isiT p = some (T, f)) : CallR X (.builtin "isinstance") (fun vs H Q => ∃ v, vs = [v, .ty T] ∧ rCl fi c W σ (fun S as => primD S p as) [v] H Q) := by
  intro pins s σ' H vs us Q I rv hh
  obtain ⟨v, rfl, w, ds, k, r, o⟩ := hh
  simp only [isi_prim h] at o
  cases r with
  | cons r1 r2 =>
    cases r2
    obtain ⟨x, hx, o⟩ := o.ofO
    simp only [Option.map_eq_some_iff] at hx
    obtain ⟨e, he, rfl⟩ := hx
    obtain ⟨p1, p2, p3⟩ := rz_dp (K := X.K) k 8 he r1
    obtain ⟨u, u2, rfl, ru, ru2⟩ := vals2 rv
    cases ru2
    obtain ⟨as, rd⟩ := dp_reads I p1 ru
    exact isi_run h rd fun tk _ => ⟨.bl _, H, I.tok _, rfl, o.val k (.bl _)⟩
/-! ### sorted -/
theorem dle_total (a b : D) : (!PySem.W.dataLt b a || !PySem.W.dataLt a b) = true := by
  cases h : PySem.W.dataLt b a with
  | false => rfl
  | true =>
    cases h2 : PySem.W.dataLt a b with
    | false => rfl
    | true =>
      have q := lex_trans (O := itemOrd) _ _ _ h h2
      rw [lex_irrefl] at q
      cases q
theorem dle_trans (a b d : D) (h1 : (!PySem.W.dataLt b a) = true) (h2 : (!PySem.W.dataLt d b) = true) : (!PySem.W.dataLt d a) = true := by
  simp only [Bool.not_eq_true'] at h1 h2 ⊢
  cases h : PySem.W.dataLt d a with
  | false => rfl
  | true =>
    cases h3 : PySem.W.dataLt b d with
    | true =>
      have q := lex_trans (O := itemOrd) _ _ _ h3 h
      exact q.symm.trans h1
    | false =>
      have e := lex_total (O := itemOrd) _ _ h3 h2
      unfold PySem.W.dataLt at h h1
      rw [← e, h1] at h
      cases h
theorem insD_mid {a : D} : ∀ {l₁ l₂ : List D}, (∀ b ∈ l₁, PySem.W.dataLt b a = true) → (∀ b ∈ l₂, PySem.W.dataLt b a = false) → insD a (l₁ ++ l₂) = l₁ ++ a :: l₂
  | [], [], _, _ => rfl
  | [], b :: l, _, h => by
    show (if PySem.W.dataLt b a then _ else _) = _
    rw [h b (List.mem_cons_self ..)]; rfl
  | b :: l₁, l₂, h1, h2 => by
    show (if PySem.W.dataLt b a then b :: insD a (l₁ ++ l₂) else _) = _
    rw [h1 b (List.mem_cons_self ..), if_pos rfl, insD_mid (fun x hx => h1 x (List.mem_cons_of_mem _ hx)) h2]; rfl
theorem sortD_ms : ∀ xs : List D, sortD xs = xs.mergeSort fun x y => !PySem.W.dataLt y x
  | [] => by simp [sortD]
  | x :: xs => by
    obtain ⟨l₁, l₂, h1, h2, h3⟩ := List.mergeSort_cons (le := fun x y => !PySem.W.dataLt y x) dle_trans dle_total x xs
    have pw := List.pairwise_mergeSort (le := fun x y => !PySem.W.dataLt y x) dle_trans dle_total (x :: xs)
    rw [h1] at pw ⊢
    show insD x (sortD xs) = _
    rw [sortD_ms xs, h2]
    refine insD_mid (fun b hb => by simpa using h3 b hb) fun b hb => ?_
    have := (List.pairwise_append.mp pw).2.1
    rw [List.pairwise_cons] at this
    simpa using this.1 b hb
theorem rpAll_each {H : Hp} {w : Wl c} : ∀ {vs : List V} {ds : List D}, RpAll H w vs ds ↔ PySem.W.EachIs (Rp H w) vs ds
  | [], [] => ⟨fun _ => .nil, fun _ => .nil⟩
  | [], _ :: _ => ⟨fun h => (nomatch h), fun h => (nomatch h)⟩
  | _ :: _, [] => ⟨fun h => (nomatch h), fun h => (nomatch h)⟩
  | v :: vs, d :: ds => ⟨fun h => by cases h with | cons a b => exact .cons a (rpAll_each.mp b), fun h => by cases h with | cons a b => exact .cons a (rpAll_each.mpr b)⟩
theorem dpAll_each {pins : List (Addr × Obj)} {s : Shared} {σ : L2.St} {H : Hp} (I : Inv X pins σ H s) : ∀ {vs : List V} {us : List Value} {ds : List D}, DpAll X.K H vs ds → Vals vs us → PySem.W.EachIs (fun u (b : V × D) => RelV b.1 u) us (vs.zip ds) ∧ PySem.W.EachIs (fun u (b : V × D) => ∃ as, Reads s.heap u b.2 as) us (vs.zip ds)
  | _, _, _, .nil, .nil => ⟨.nil, .nil⟩
  | _, _, _, .cons h t, .cons r q => by
    obtain ⟨h1, h2⟩ := dpAll_each I t q
    exact ⟨.cons r h1, .cons (dp_reads I h r) h2⟩
theorem vals_each : ∀ {us : List Value} {bs : List (V × D)}, PySem.W.EachIs (fun u (b : V × D) => RelV b.1 u) us bs → Vals (bs.map (·.1)) us
  | _, _, .nil => .nil
  | _, _, .cons r t => .cons r (vals_each t)
theorem rp_zip {H : Hp} {w : Wl c} : ∀ {vs : List V} {ds : List D}, RpAll H w vs ds → ∀ b ∈ vs.zip ds, Rp H w b.1 b.2
  | _, _, .nil, b, h => by simp at h
  | _, _, .cons r t, b, h => by
    rcases List.mem_cons.mp h with rfl | h
    · exact r
    · exact rp_zip t b h
theorem rp_unzip {H : Hp} {w : Wl c} : ∀ {bs : List (V × D)}, (∀ b ∈ bs, Rp H w b.1 b.2) → RpAll H w (bs.map (·.1)) (bs.map (·.2))
  | [], _ => .nil
  | b :: bs, h => .cons (h b (List.mem_cons_self ..)) (rp_unzip fun x hx => h x (List.mem_cons_of_mem _ hx))
theorem cl_sorted (hu : X.A.units + 64 < cLine) : CallR X (.builtin "sorted") (rCl fi c W σ fun S as => primD S .sorted as) := by
  intro pins s σ' H vs us Q I rv h
  obtain ⟨w, ds, k, r, o⟩ := h
  simp only [primD] at o
  split at o
  all_goals try contradiction
  all_goals try (exact o.elim)
  split at o
  · rename_i ys hy
    obtain ⟨hb, o⟩ := o.okI
    obtain ⟨v, rfl, r1⟩ := r.one
    obtain ⟨a, zs, rfl, h1, h2⟩ := viewL_rp k hy r1
    simp only [sortable, Bool.and_eq_true, Bool.or_eq_true, decide_eq_true_eq] at hb
    obtain ⟨⟨⟨q1, q2⟩, q3⟩, q4⟩ := hb
    obtain ⟨p1, p2⟩ := pure8_all q1
    obtain ⟨u, rfl, ru⟩ := vals1 rv
    cases ru
    obtain ⟨its, rv2, ht, _⟩ := I.list (SqL.of (K := X.K) h1)
    obtain ⟨e1, e2⟩ := dpAll_each I (pl_dpAll (K := X.K) ys p1 h2) rv2
    have hl : zs.length = ys.length := h2.length
    have hm : (zs.zip ys).map (·.2) = ys := List.map_snd_zip (by omega)
    have hal : PySem.W.AllAlike ((zs.zip ys).map (·.2)) := by
      rw [hm]
      intro x hx y hy
      have := List.all_eq_true.mp q2 x hx
      exact List.all_eq_true.mp this y hy
    have hso : PySem.W.Sortable ((zs.zip ys).map (·.2)) := by
      rw [hm]
      rcases q3 with q3 | q3
      · refine .inl fun d hd => ?_
        have := List.all_eq_true.mp q3 d hd
        cases d <;> simp [isTup1] at this
        rename_i xs
        cases xs with
        | nil => simp at this
        | cons x r => exact ⟨x, r, rfl⟩
      · refine .inr fun d hd => ?_
        have := List.all_eq_true.mp q3 d hd
        cases d <;> simp [isPl] at this <;> exact ⟨by simp, by simp⟩
    have hzl : (zs.zip ys).length = ys.length := by rw [List.length_zip]; omega
    refine PySem.W.sorted_data (bs := zs.zip ys) (enc := fun b => b.2) (R := fun u (b : V × D) => RelV b.1 u) ht.isList e1 e2 hal hso (by rw [hzl, ← big_eq]; exact q4) (fun b hb => ?_) fun out hlen hout => ?_
    · have hb2 : b.2 ∈ ys := by rw [← hm]; exact List.mem_map.mpr ⟨b, hb, rfl⟩
      have := List.all_eq_true.mp q1 _ hb2
      simp only [pure8, Bool.and_eq_true, decide_eq_true_eq] at this
      omega
    · have rel := vals_each hout
      have rp : RpAll H w (((zs.zip ys).mergeSort (PySem.W.dataLe false fun b => b.2)).map (·.1)) (sortD ys) := by
        have e : ((zs.zip ys).mergeSort (PySem.W.dataLe false fun b => b.2)).map (·.2) = sortD ys := by
          rw [sortD_ms, PySem.W.sort_maps (r := PySem.W.dataLe false fun b : V × D => b.2) (s := fun x y => !PySem.W.dataLt y x) (fun b : V × D => b.2) (fun _ _ _ _ => rfl), hm]
        rw [← e]
        refine rp_unzip fun b hb => rp_zip h2 b ?_
        exact List.mem_mergeSort.mp hb
      obtain ⟨n, hn⟩ := PyProof.Rows.sortedAll_at s.heap its out.toArray
      have hfr : H (s.heap.objs.size + 1) = none := I.hok.fresh (Nat.le_succ _)
      refine ⟨.ref (s.heap.objs.size + 1), _, I.laid (t' := s.toks) (a := s.heap.objs.size + 1) (o := .lst (((zs.zip ys).mergeSort (PySem.W.dataLe false fun b => b.2)).map (·.1))) (fun b o e => PyProof.Rows.sortedAll_old e) (Nat.le_succ _) ⟨?_, out, n, rel, hn⟩, rfl, o.newL k rp hfr⟩
      rw [List.length_map, List.length_mergeSort, hzl, ← big_eq]
      exact q4
  · exact o.elim
end
end MP
end

section
set_option Elab.async false
set_option linter.all false
set_option maxRecDepth 100000
set_option maxHeartbeats 4000000
set_option autoImplicit false
namespace MP
open PySem L2 PySem.Spec PyProof.Rows
/-! names of a program -/
structure Nm where
  fn : Nat → Option (Str × Nat)
  gl : Nat → Option Str
  cls : Nat → Option Str
  mt : Nat → Option (Str × Nat)
  lg : Bool
  x8 : Bool
structure SC where
  N : List Str
  sc : Scope
  fn : Str → Bool
def visB (sc : Scope) (x : Str) : Bool := match sc.names.lookup x with
  | some .local => true
  | some .cell => true
  | some .free => true
  | _ => false
def locB (sc : Scope) (x : Str) : Bool := match sc.names.lookup x with
  | some .local => true
  | some .cell => true
  | _ => false
def isLocB (sc : Scope) (x : Str) : Bool := match sc.names.lookup x with
  | some .local => true
  | _ => false
def glB (sc : Scope) (x : Str) : Bool := match sc.names.lookup x with
  | some .globalImplicit => true
  | _ => false
def fine : Expr → Bool
  | .Starred _ _ => false
  | .Set _ _ _ => false
  | .Slice _ _ _ _ => false
  | _ => true
def mOk : Meth → Bool
  | _ => true
def mAr : Meth → List Expr → Bool
  | .pop, xs => xs.isEmpty
  | _, xs => !xs.isEmpty
def isFr : E → Bool
  | .bin _ _ _ => true
  | .lst _ => true
  | .slc _ _ _ => true
  | .rev _ => true
  | .prim _ _ => true
  | .comp _ _ _ _ _ => true
  | _ => false
def baseB : Expr → Bool
  | .Call (.Name _ _) [] [] _ => false
  | _ => true
def bopOf : Bop → Operator
  | .add => .Add
  | .sub => .Sub
  | .mul => .Mult
  | .fdiv => .FloorDiv
  | .mod => .Mod
  | .pow => .Pow
def copOf : Cop → CmpOp
  | .eq => .Eq
  | .ne => .NotEq
  | .lt => .Lt
  | .le => .LtE
  | .gt => .Gt
  | .ge => .GtE
  | .isin => .In
  | .notin => .NotIn
  | .is => .Is
  | .isnot => .IsNot
def bltn : Prim → Option Str
  | .len => some "len"
  | .sum => some "sum"
  | .all => some "all"
  | .any => some "any"
  | .min => some "min"
  | .max => some "max"
  | .sorted => some "sorted"
  | _ => none
def bltnT : Prim → Option Str
  | .list => some "list"
  | .tuple => some "tuple"
  | .str => some "str"
  | .int => some "int"
  | _ => none
def isiN : Prim → Option Str
  | .isint => some "int"
  | .isbool => some "bool"
  | .islist => some "list"
  | .istuple => some "tuple"
  | .isstr => some "str"
  | _ => none
/-- one call within another -/
def nestN : Prim → Option (Str × Str)
  | .lenset => some ("len", "set")
  | .sortset => some ("sorted", "set")
  | .lrange => some ("list", "range")
  | _ => none
def nestL : Prim → Bool
  | .sortset => true
  | .lrange => true
  | _ => false
def methN : Meth → Str
  | .append => "append"
  | .remove => "remove"
  | .count => "count"
  | .index => "index"
  | .pop => "pop"
  | .join => "join"
  | .split => "split"
mutual
def okT (cx : SC) : Tg → Expr → Bool
  | .nm i, .Name x _ => decide (cx.N[i]? = some x) && locB cx.sc x && (cx.fn x || isLocB cx.sc x)
  | .tp ts, .Tuple es _ _ => okTs cx ts es
  | _, _ => false
def okTs (cx : SC) : Tgs → List Expr → Bool
  | .nil, [] => true
  | .cons t ts, e :: es => okT cx t e && okTs cx ts es
  | _, _ => false
end
mutual
def slots : Tg → List Nat
  | .nm i => [i]
  | .tp ts => slotss ts
def slotss : Tgs → List Nat
  | .nil => []
  | .cons t ts => slots t ++ slotss ts
end
def blk (cx : SC) (scope : Scope) : SC := ⟨cx.N, relS scope cx.sc, fun x => scope.names.lookup x == some .cell⟩
def ownOf (N : List Str) (own : List Nat) : List (Str × Nat) := own.map fun i => (N.getD i "", i)
def isTupE : Expr → Bool
  | .Tuple _ _ _ => true
  | _ => false
variable (nm : Nm)
mutual
/-- fi: only forms that make a new list -/
def okE (cx : SC) : E → Bool → Expr → Bool
  | .var i, fi, .Name x _ => !fi && decide (cx.N[i]? = some x) && visB cx.sc x && !(x == ("__debug__" : Str)) && !(x == ("__classdict__" : Str))
  | .int i, fi, .Constant (.int j) _ _ => !fi && decide (i = j)
  | .bl b, fi, .Constant (.bool k) _ _ => !fi && decide (b = k)
  | .non, fi, .Constant .none _ _ => !fi
  | .str z, fi, .Constant (.str y) _ _ => !fi && decide (z = y)
  | .glob g, fi, .Name x _ => !fi && decide (nm.gl g = some x) && glB cx.sc x && !(x == ("__debug__" : Str))
  | .bin o a b, _, .BinOp a' p b' _ => decide (bopOf o = p) && okE cx a false a' && okE cx b false b'
  | .neg a, fi, .UnaryOp .USub a' _ => !fi && okE cx a false a'
  | .nt a, fi, .UnaryOp .Not a' _ => !fi && okE cx a false a'
  | .and a b, fi, .BoolOp .And (a' :: b' :: r) pos => !fi && okE cx a false a' && okE cx b false (match r with
    | [] => b'
    | _ :: _ => .BoolOp .And (b' :: r) pos)
  | .or a b, fi, .BoolOp .Or (a' :: b' :: r) pos => !fi && okE cx a false a' && okE cx b false (match r with
    | [] => b'
    | _ :: _ => .BoolOp .Or (b' :: r) pos)
  | .ite c a b, fi, .IfExp c' a' b' _ => !fi && okE cx c false c' && okE cx a false a' && okE cx b false b'
  | .cmp o a b, fi, .Compare a' [p] [b'] _ => !fi && decide (copOf o = p) && fine b' && okE cx a false a' && okE cx b false b'
  | .chain o q a b c, fi, .Compare a' [p, p'] [b', c'] _ => !fi && decide (copOf o = p) && decide (copOf q = p') && fine b' && fine c' && okE cx a false a' && okE cx b false b' && okE cx c false c'
  | .tup es, fi, .Tuple es' _ _ => !fi && okEs cx es es'
  | .dct, fi, .Dict [] [] _ => !fi
  | .lst es, _, .List es' _ => okEs cx es es'
  | .ix a i, fi, .Subscript a' i' _ => !fi && fine i' && okE cx a false a' && okE cx i false i'
  | .slc a lo hi, _, .Subscript a' (.Slice lo' hi' none _) _ => okE cx a false a' && okO cx lo lo' && okO cx hi hi'
  | .rev a, _, .Subscript a' (.Slice none none (some (.UnaryOp .USub (.Constant (.int 1) _ _) _)) _) _ => okE cx a false a'
  | .call f es, fi, .Call (.Name x _) es' [] _ => !fi && (match nm.fn f with
    | some (y, n) => decide (x = y) && decide (es'.length = n) && glB cx.sc x && !(x == ("__debug__" : Str)) && okEs cx es es'
    | none => false)
  | .prim p es, fi, .Call (.Name x _) es' [] _ => (match bltn p, bltnT p, isiN p with
    | some y, _, _ => decide (x = y) && glB cx.sc x && !es'.isEmpty && okEs cx es es'
    | none, some y, _ => decide (x = y) && glB cx.sc x && !es'.isEmpty && okEs cx es es'
    | none, none, some T => !fi && decide (x = "isinstance") && glB cx.sc x && glB cx.sc T && (match es' with
      | [a', .Name t _] => decide (t = T) && okEs cx es [a']
      | _ => false)
    | none, none, none => (match nestN p with
      | some (o, i) => (!fi || nestL p) && decide (x = o) && glB cx.sc o && glB cx.sc i && (match es' with
        | [.Call (.Name y _) es2 [] _] => decide (y = i) && !es2.isEmpty && okEs cx es es2
        | _ => false)
      | none => false))
  | .meth m o es, fi, .Call (.Attribute o' x ap) es' [] cp => !fi && (mOk m && mAr m es') && decide (x = methN m) && (ap.endLine == cp.line) && baseB o' && decide (es'.length < 30) && okE cx o false o' && okEs cx es es'
  | .comp elt tg it cond own, _, .ListComp elt' [⟨tg', it', ifs', 0⟩] scope _ =>
      okJ cx it (isTupE tg') it' && blkC cx.N cx.sc scope (ownOf cx.N own) && okT (blk cx scope) tg tg' && (slots tg).all (fun i => own.contains i) && (match ifs' with
        | [] => okO (blk cx scope) cond none
        | [c'] => okO (blk cx scope) cond (some c')
        | _ => false) && okE (blk cx scope) elt false elt'
  | .attr o f, fi, .Attribute o' x _ => !fi && nm.lg && decide (f < 2) && decide (x = attN f) && baseB o' && okE cx o false o'
  | .umeth f o es, fi, .Call (.Attribute (.Name o' op) x ap) es' [] cp => !fi && (nm.lg && (ap.endLine == cp.line) && decide (es'.length < 30)) && (match nm.mt f with
    | some (m, n) => decide (x = m) && decide (es'.length + 1 = n) && !(m == ("rows" : Str)) && !(m == ("past" : Str))
    | none => false) && okE cx o false (.Name o' op) && okEs cx es es'
  | .mk _ f es, fi, .Call (.Name x _) es' [] _ => !fi && nm.lg && decide (x = "Ledger") && glB cx.sc x && (match nm.mt f with
    | some (m, n) => decide (m = "__init__") && decide (es'.length + 1 = n)
    | none => false) && !es'.isEmpty && okEs cx es es'
  | .ulen f o, fi, .Call (.Name x _) [o'] [] _ => !fi && nm.lg && decide (x = "len") && glB cx.sc x && (match nm.mt f with
    | some (m, n) => decide (m = "__len__") && decide (n = 1)
    | none => false) && fine o' && okE cx o false o'
  | .isi y e, fi, .Call (.Name x _) [a', .Name t _] [] _ => !fi && nm.x8 && decide (x = "isinstance") && glB cx.sc x && glB cx.sc t && (if y = 100 then decide (t = "ValueError") else decide (y < 8) && decide (nm.cls y = some t) && !(t == ("__debug__" : Str))) && fine a' && okE cx e false a'
  | .mt e, fi, x => !fi && isFr e && okE cx e true x
  | .fz e, fi, x => !fi && okE cx e false x
  | _, _, _ => false
def okEs (cx : SC) : Es → List Expr → Bool
  | .nil, [] => true
  | .cons e es, x :: xs => fine x && okE cx e false x && okEs cx es xs
  | _, _ => false
def okO (cx : SC) : Oe → Option Expr → Bool
  | .none, none => true
  | .some e, some x => okE cx e false x
  | _, _ => false
/-- an iterable: tp: the target is a tuple -/
def okJ (cx : SC) : Itr → Bool → Expr → Bool
  | .rng1 a, _, .Call (.Name x _) [a'] [] _ => decide (x = "range") && glB cx.sc x && fine a' && okE cx a false a'
  | .rng a b, _, .Call (.Name x _) [a', b'] [] _ => decide (x = "range") && glB cx.sc x && fine a' && fine b' && okE cx a false a' && okE cx b false b'
  | .enum a, tp, .Call (.Name x _) [a'] [] _ => tp && decide (x = "enumerate") && glB cx.sc x && fine a' && okE cx a false a'
  | .zip a b, tp, .Call (.Name x _) [a', b'] [] _ => tp && decide (x = "zip") && glB cx.sc x && fine a' && fine b' && okE cx a false a' && okE cx b false b'
  | .of e, _, x => fine x && okE cx e false x
  | _, _, _ => false
end
end MP
end

section
set_option Elab.async false
set_option linter.all false
set_option maxRecDepth 100000
set_option maxHeartbeats 4000000
set_option autoImplicit false
namespace MP
open PySem L2 PySem.Spec PyProof.Rows
abbrev WF : WX := fun _ _ _ _ => False
def spOf (c : Cfg) (F : List D → Store → Res D) : Sp := fun vs H Q E => ∃ w : Wl c, ∃ ds, Wok H w ∧ RpAll H w vs ds ∧ OutE c (fun cls d _ H' => E cls d H') [] H w Q (F ds w.S)
def bltns : List Str := ["len", "sum", "all", "any", "min", "max", "sorted", "list", "tuple", "str", "int", "isinstance", "bool", "range", "enumerate", "zip", "set", "ValueError"]
structure Fns (P : Program) (wd : World) (K : PySem.W.Frag) (mg : Str → Option Value) (base : Heap) (nm : Nm) (c : Cfg) (G : Nat → Option D) (C : Call) (k : Nat) : Prop where
  fn : ∀ f x n, nm.fn f = some (x, n) → ∃ a fd ps, ps.length = n ∧ mg x = some (.ref a) ∧ PySem.W.keepIn K (.ref a) = true ∧ Binds K fd ps [] ∧ FnOk P wd K mg base (L2.CX P wd) k a fd ps (spOf c (C f))
  gl : ∀ g x d, nm.gl g = some x → G g = some d → ∃ v u, mg x = some u ∧ RelV v u ∧ ∀ H (w : Wl c), Rp H w v d
  bl : ∀ x ∈ bltns, mg x = none
  ex : ∀ i x, nm.cls i = some x → ∃ Ca, mg x = some (.ref Ca) ∧ PySem.W.excIn K Ca [.type "ValueError", .type "Exception", .type "BaseException", .type "object"] "ValueError.__new__" = true ∧ PySem.W.keepIn K (.ref Ca) = true ∧ PySem.W.subIn K (.ref Ca) (.type "BaseException") = some true ∧ PySem.W.typeIn K (.ref Ca) = some (.type "type") ∧ c.cv i = .ref Ca
  lg : nm.lg = true → Cls K c.lc ∧ NoAttr K c.lc "rows" ∧ NoAttr K c.lc "past" ∧ mg "Ledger" = some (.ref c.lc)
  mt : ∀ f m n, nm.mt f = some (m, n) → ∃ a fd ps, ps.length = n ∧ L2.Meth K c.lc m a ∧ (m = "__init__" → Mk K c.lc a) ∧ Binds K fd ps [] ∧ FnOk P wd K mg base (L2.CX P wd) k a fd ps (spOf c (C f))
  x8 : nm.x8 = true → ∀ n, n < 8 → ∃ Ca, c.cv n = .ref Ca ∧ ExcC K Ca ∧ PySem.W.kitOne K (.ref Ca) (.type "ValueError") = some true ∧ PySem.W.exmOne K (.ref Ca) (c.cv 0) = some true ∧ ∀ y, y < 8 → PySem.W.kitOne K (.ref Ca) (c.cv y) = some (subX n y)
  wd : wd = c.wd
structure XO (nm : Nm) (c : Cfg) (G : Nat → Option D) (C : Call) (k : Nat) (X : Cx) (cx : SC) (W : WX) : Prop where
  N : X.N = cx.N
  nd : X.N.Nodup
  sc : X.env.scope = cx.sc
  fn : X.fn = cx.fn
  calm : X.calm = true
  roomS : Room (k + 1) X.A
  tb : Fns X.prog X.w X.K X.mg X.base nm c G C k
  tk : Takes X W
theorem XO.room {nm : Nm} {c : Cfg} {G : Nat → Option D} {C : Call} {k : Nat} {X : Cx} {cx : SC} {W : WX} (ox : XO nm c G C k X cx W) : Room k X.A := ox.roomS.mono (Nat.le_succ k)
theorem XO.wd {nm : Nm} {c : Cfg} {G : Nat → Option D} {C : Call} {k : Nat} {X : Cx} {cx : SC} {W : WX} (ox : XO nm c G C k X cx W) : X.w = c.wd := ox.tb.wd
section
variable {c : Cfg} {W : WX} {σ : L2.St} {H : Hp} {w : Wl c}
def OutT (c : Cfg) (W : WX) (σ : L2.St) (H : Hp) (w : Wl c) (Q : Bool → Hp → Prop) : Res D → Prop
  | .bad => False
  | .ok d S' => ∃ b, tru d = some b ∧ ∀ H' w', Ext H w H' w' → w'.S = S' → Wok H' w' → Q b H'
  | .exc x S' => ∀ H' w', Ext H w H' w' → w'.S = S' → Wok H' w' → W (c.cv x) none σ H'
def rdT (c : Cfg) (W : WX) (f : Env → Store → Res D) : TT := fun σ H Q => ∃ w : Wl c, ∃ r, Wok H w ∧ ER H w r σ ∧ OutT c W σ H w Q (f r w.S)
theorem tru_eq {d : D} {b : Bool} (h : tru d = some b) : d = .bool b := by
  unfold tru at h
  split at h
  · cases h; rfl
  · cases h
theorem OutT.trans {Q : Bool → Hp → Prop} {r : Res D} {H1 : Hp} {w1 : Wl c} (o : OutT c W σ H w Q r) (x : Ext H w H1 w1) : OutT c W σ H1 w1 Q r := by
  cases r with
  | bad => exact o
  | ok d S' =>
    obtain ⟨b, hb, o⟩ := o
    exact ⟨b, hb, fun H' w' y e k => o H' w' (x.trans y) e k⟩
  | exc n S' => exact fun H' w' y e k => o H' w' (x.trans y) e k
/-- an expression's outcome from a test's -/
theorem OutT.e {Q : Bool → Hp → Prop} {r : Res D} (o : OutT c W σ H w Q r) : OutE c W σ H w (fun v H' => ∃ b, v = .bl b ∧ Q b H') r := by
  cases r with
  | bad => exact o
  | ok d S' =>
    obtain ⟨b, hb, o⟩ := o
    intro H' w' v x e k r
    have := tru_eq hb
    subst this
    exact ⟨b, r.bl_inv, o H' w' x e k⟩
  | exc n S' => exact o
/-- a test's outcome from that of a compound -/
theorem Out.bindT {fi : Bool} {Q : VK} {Q' : Bool → Hp → Prop} {r : Res D} {f : D → Store → Res D} (o : Out fi c W σ H w Q (r.bind f)) (hb : ∀ d S', r = .ok d S' → tru d = none → f d S' = .bad)
    (h : ∀ b H1 w1, Ext H w H1 w1 → Wok H1 w1 → Out fi c W σ H1 w1 Q (f (.bool b) w1.S) → Q' b H1) : OutT c W σ H w Q' r := by
  cases r with
  | bad => exact o
  | ok d S' =>
    cases e : tru d with
    | none =>
      have := hb d S' rfl e
      have o : Out fi c W σ H w Q (f d S') := o
      rw [this] at o
      exact o.elim
    | some b =>
      have := tru_eq e
      subst this
      refine ⟨b, rfl, fun H' w' x es k => ?_⟩
      subst es
      exact h b H' w' x k (Out.trans (r := f (.bool b) w'.S) o x)
  | exc n S' => exact o
theorem OutT.bindT {Q Q' : Bool → Hp → Prop} {r : Res D} {f : D → Store → Res D} (o : OutT c W σ H w Q (r.bind f)) (hb : ∀ d S', r = .ok d S' → tru d = none → f d S' = .bad)
    (h : ∀ b H1 w1, Ext H w H1 w1 → Wok H1 w1 → OutT c W σ H1 w1 Q (f (.bool b) w1.S) → Q' b H1) : OutT c W σ H w Q' r := by
  cases r with
  | bad => exact o
  | ok d S' =>
    cases e : tru d with
    | none =>
      have := hb d S' rfl e
      have o : OutT c W σ H w Q (f d S') := o
      rw [this] at o
      exact o.elim
    | some b =>
      have := tru_eq e
      subst this
      refine ⟨b, rfl, fun H' w' x es k => ?_⟩
      subst es
      exact h b H' w' x k (OutT.trans (r := f (.bool b) w'.S) o x)
  | exc n S' => exact o
theorem OutE.bindT' {Q : Bool → Hp → Prop} {Q' : VK} {r : Res D} {f : D → Store → Res D} (o : OutT c W σ H w Q (r.bind f))
    (h : ∀ d H1 w1 v, Ext H w H1 w1 → Wok H1 w1 → Rp H1 w1 v d → OutT c W σ H1 w1 Q (f d w1.S) → Q' v H1) : OutE c W σ H w Q' r := by
  cases r with
  | bad => exact o
  | ok d S' =>
    intro H' w' v x e k rp
    subst e
    exact h d H' w' v x k rp (OutT.trans (r := f d w'.S) o x)
  | exc n S' => exact o
end
/-- the forms whose test is their value's truth -/
def plainT : Expr → Bool
  | .UnaryOp .Not _ _ => false
  | .BoolOp _ _ _ => false
  | .IfExp _ _ _ _ => false
  | .Compare _ _ _ _ => false
  | _ => true
theorem plainT_ok {x : Expr} {env : PySem.Env} (h : plainT x = true) : ∀ whole, isTrue x env whole = (do let v ← whole; standAt x.pos; holding [v] (truthy v)) := by
  intro whole
  cases x <;> first | exact Bool.noConfusion (show false = true from h) | rfl | skip
  rename_i op _ _
  cases op <;> first | exact Bool.noConfusion (show false = true from h) | rfl
theorem pt_of {X : Cx} {c : Cfg} {W : WX} {x : Expr} {f : Env → Store → Res D} (h : PE X x (rdE c W f)) (p : plainT x = true) : PT X x (rdT c W f) :=
  PT.imp (pt_val h (plainT_ok p)) fun σ H Q ⟨w, r, k, er, o⟩ => ⟨w, r, k, er, o.e⟩
variable (nm : Nm) (c : Cfg) (G : Nat → Option D) (C : Call) (k : Nat)
structure SndE (e : E) : Prop where
  pe : ∀ (X : Cx) (cx : SC) (W : WX) (fi : Bool) (x : Expr), XO nm c G C k X cx W → okE nm cx e fi x = true → PE X x (rdG fi c W (ev G C e))
  pt : ∀ (X : Cx) (cx : SC) (W : WX) (x : Expr), XO nm c G C k X cx W → okE nm cx e false x = true → PT X x (rdT c W (ev G C e))
structure SndEs (es : Es) : Prop where
  pa : ∀ (X : Cx) (cx : SC) (W : WX) (xs : List Expr), XO nm c G C k X cx W → okEs nm cx es xs = true → PA X xs (rdA c W (evs G C es))
  hd : ∀ e es', es = .cons e es' → SndE nm c G C k e
variable {nm c G C k}
theorem SndE.of {e : E} (h : ∀ (X : Cx) (cx : SC) (W : WX) (fi : Bool) (x : Expr), XO nm c G C k X cx W → okE nm cx e fi x = true → PE X x (rdG fi c W (ev G C e)))
    (p : ∀ (cx : SC) (x : Expr), okE nm cx e false x = true → plainT x = true) : SndE nm c G C k e := ⟨h, fun X cx W x ox hx => pt_of (h X cx W false x ox hx) (p cx x hx)⟩
theorem vis_of {sc : Scope} {x : Str} (h : visB sc x = true) : Vis sc x := by
  unfold visB at h
  split at h
  · exact .inl (by assumption)
  · exact .inr (.inl (by assumption))
  · exact .inr (.inr (by assumption))
  · cases h
theorem loc_of {sc : Scope} {x : Str} (h : locB sc x = true) : Loc sc x := by
  unfold locB at h
  split at h
  · exact .inl (by assumption)
  · exact .inr (by assumption)
  · cases h
theorem isLoc_of {sc : Scope} {x : Str} (h : isLocB sc x = true) : sc.names.lookup x = some .local := by
  unfold isLocB at h
  split at h
  · assumption
  · cases h
theorem gl_of {X : Cx} {sc : Scope} {x : Str} (e : X.env.scope = sc) (h : glB sc x = true) : Gl X x := by
  unfold glB at h
  unfold Gl PySem.Env.kindOf
  rw [e]
  split at h
  · assumption
  · cases h
theorem fine_star {x : Expr} {env : PySem.Env} {xs : List Expr} (h : fine x = true) : starEach (x :: xs) env = (false, eval x env) :: starEach xs env := by
  cases x <;> first | exact Bool.noConfusion (show false = true from h) | rfl
theorem fine_mark {x : Expr} {op : CmpOp} (h : fine x = true) : behindInMarks op x = false := by
  cases x <;> first | exact Bool.noConfusion (show false = true from h) | rfl
theorem fine_ix {x : Expr} (h : fine x = true) : PlainIx x := by
  intro o i
  cases x <;> first | exact Bool.noConfusion (show false = true from h) | rfl
theorem fine_set {x : Expr} {env : PySem.Env} (h : fine x = true) : ∀ v, foldedSetIterable x env v = pure v := by
  intro v
  cases x <;> first | exact Bool.noConfusion (show false = true from h) | rfl
theorem okE_fi {fi : Bool} (h : (!fi) = true) : fi = false := by cases fi <;> simp at h ⊢

theorem snd_var (i : Nat) : SndE nm c G C k (.var i) := by
  refine .of (fun X cx W fi x ox h => ?_) fun cx x h => ?_
  · cases x <;> first | exact Bool.noConfusion (show false = true from h) | skip
    rename_i y pos
    simp only [okE, Bool.and_eq_true, decide_eq_true_eq] at h
    obtain ⟨⟨⟨⟨hf, h1⟩, h2⟩, h3⟩, h4⟩ := h
    have := okE_fi hf
    subst this
    refine PE.imp (pe_var (i := i) (by rw [ox.N]; exact h1) (by rw [ox.sc]; exact vis_of h2) (by simpa using h3) (by simpa using h4)) fun σ H Q ⟨w, r, kk, er, o⟩ => ?_
    obtain ⟨d, hd, o⟩ := o.ofO
    obtain ⟨v, hv, rv⟩ := er.get hd
    exact ⟨v, hv, o.valE kk rv⟩
  · cases x <;> first | exact Bool.noConfusion (show false = true from h) | rfl
theorem snd_int (i : Int) : SndE nm c G C k (.int i) := by
  refine .of (fun X cx W fi x ox h => ?_) fun cx x h => ?_
  · cases x <;> first | exact Bool.noConfusion (show false = true from h) | skip
    rename_i y _ pos
    cases y <;> first | exact Bool.noConfusion (show false = true from h) | skip
    simp only [okE, Bool.and_eq_true, decide_eq_true_eq] at h
    obtain ⟨hf, rfl⟩ := h
    have := okE_fi hf
    subst this
    exact PE.imp pe_int fun σ H Q ⟨w, r, kk, er, o⟩ => o.valE kk (.int _)
  · cases x <;> first | exact Bool.noConfusion (show false = true from h) | rfl
theorem snd_bl (i : Bool) : SndE nm c G C k (.bl i) := by
  refine .of (fun X cx W fi x ox h => ?_) fun cx x h => ?_
  · cases x <;> first | exact Bool.noConfusion (show false = true from h) | skip
    rename_i y _ pos
    cases y <;> first | exact Bool.noConfusion (show false = true from h) | skip
    simp only [okE, Bool.and_eq_true, decide_eq_true_eq] at h
    obtain ⟨hf, rfl⟩ := h
    have := okE_fi hf
    subst this
    exact PE.imp pe_bl fun σ H Q ⟨w, r, kk, er, o⟩ => o.valE kk (.bl _)
  · cases x <;> first | exact Bool.noConfusion (show false = true from h) | rfl
theorem snd_str (i : Str) : SndE nm c G C k (.str i) := by
  refine .of (fun X cx W fi x ox h => ?_) fun cx x h => ?_
  · cases x <;> first | exact Bool.noConfusion (show false = true from h) | skip
    rename_i y _ pos
    cases y <;> first | exact Bool.noConfusion (show false = true from h) | skip
    simp only [okE, Bool.and_eq_true, decide_eq_true_eq] at h
    obtain ⟨hf, rfl⟩ := h
    have := okE_fi hf
    subst this
    exact PE.imp pe_str fun σ H Q ⟨w, r, kk, er, o⟩ => o.valE kk (.str _)
  · cases x <;> first | exact Bool.noConfusion (show false = true from h) | rfl
theorem snd_non : SndE nm c G C k .non := by
  refine .of (fun X cx W fi x ox h => ?_) fun cx x h => ?_
  · cases x <;> first | exact Bool.noConfusion (show false = true from h) | skip
    rename_i y _ pos
    cases y <;> first | exact Bool.noConfusion (show false = true from h) | skip
    have := okE_fi (show (!fi) = true from h)
    subst this
    exact PE.imp pe_non fun σ H Q ⟨w, r, kk, er, o⟩ => o.valE kk .non
  · cases x <;> first | exact Bool.noConfusion (show false = true from h) | rfl
theorem snd_glob (g : Nat) : SndE nm c G C k (.glob g) := by
  refine .of (fun X cx W fi x ox h => ?_) fun cx x h => ?_
  · cases x <;> first | exact Bool.noConfusion (show false = true from h) | skip
    rename_i y pos
    simp only [okE, Bool.and_eq_true, decide_eq_true_eq] at h
    obtain ⟨⟨⟨hf, h1⟩, h2⟩, h3⟩ := h
    have := okE_fi hf
    subst this
    refine ⟨fun pins s σ H Q I hh => ?_⟩
    obtain ⟨w, r, kk, er, o⟩ := hh
    obtain ⟨d, hd, o⟩ := o.ofO
    obtain ⟨v, u, hm, rv, rp⟩ := ox.tb.gl g y d h1 hd
    exact (pe_glob (gl_of ox.sc h2) hm rv (by simpa using h3)).run pins s σ H Q I (o.valE kk (rp H w))
  · cases x <;> first | exact Bool.noConfusion (show false = true from h) | rfl
theorem opOf {X : Cx} {fi : Bool} {W : WX} {σ : L2.St} (o : Bop) : OpR X (binaryOp (bopOf o)) (rOp fi c W σ fun S a b => binD S o a b) := by
  cases o
  · exact op_addD
  · exact op_subD
  · exact op_mulD
  · exact op_fdivD
  · exact op_modD
  · exact op_powD
theorem snd_bin (o : Bop) {a b : E} (ha : SndE nm c G C k a) (hb : SndE nm c G C k b) : SndE nm c G C k (.bin o a b) := by
  refine .of (fun X cx W fi x ox h => ?_) fun cx x h => ?_
  · cases x <;> first | exact Bool.noConfusion (show false = true from h) | skip
    rename_i a' p b' pos
    simp only [okE, Bool.and_eq_true, decide_eq_true_eq] at h
    obtain ⟨⟨rfl, h1⟩, h2⟩ := h
    have pa := ha.pe X cx W false a' ox h1
    have pb := hb.pe X cx W false b' ox h2
    refine ⟨fun pins s σ H Q I hh => (pe_op (opOf (c := c) (fi := fi) (W := W) (σ := σ) o) pa pb).run pins s σ H Q I ?_⟩
    obtain ⟨w, r, kk, er, out⟩ := hh
    refine ⟨w, r, kk, er, out.bind fun d H1 w1 v x1 k1 r1 o1 => ?_⟩
    refine ⟨w1, r, k1, er.ext x1 kk, o1.bind fun e H2 w2 u x2 k2 r2 o2 => ?_⟩
    exact ⟨w2, d, e, k2, r1.ext x2 k1, r2, o2⟩
  · cases x <;> first | exact Bool.noConfusion (show false = true from h) | rfl
end MP
end

section
set_option Elab.async false
set_option linter.all false
set_option maxRecDepth 100000
set_option maxHeartbeats 4000000
set_option autoImplicit false
namespace MP
open PySem L2 PySem.Spec PyProof.Rows
variable {nm : Nm} {c : Cfg} {G : Nat → Option D} {C : Call} {k : Nat}
theorem snd_neg {a : E} (ha : SndE nm c G C k a) : SndE nm c G C k (.neg a) := by
  refine .of (fun X cx W fi x ox h => ?_) fun cx x h => ?_
  · cases x <;> first | exact Bool.noConfusion (show false = true from h) | skip
    rename_i p a' pos
    cases p <;> first | exact Bool.noConfusion (show false = true from h) | skip
    simp only [okE, Bool.and_eq_true] at h
    obtain ⟨hf, h1⟩ := h
    have := okE_fi hf
    subst this
    refine PE.imp (pe_un un_neg (ha.pe X cx W false a' ox h1)) fun σ H Q ⟨w, r, kk, er, out⟩ => ?_
    refine ⟨w, r, kk, er, out.bind fun d H1 w1 v x1 k1 r1 o1 => ?_⟩
    split at o1
    · exact ⟨_, r1.int_inv, o1.valE k1 (.int _)⟩
    · exact o1.elim
  · cases x <;> first | exact Bool.noConfusion (show false = true from h) | skip
    rename_i p a' pos
    cases p <;> first | exact Bool.noConfusion (show false = true from h) | rfl
theorem snd_nt {a : E} (ha : SndE nm c G C k a) : SndE nm c G C k (.nt a) := by
  refine ⟨fun X cx W fi x ox h => ?_, fun X cx W x ox h => ?_⟩
  · cases x <;> first | exact Bool.noConfusion (show false = true from h) | skip
    rename_i p a' pos
    cases p <;> first | exact Bool.noConfusion (show false = true from h) | skip
    simp only [okE, Bool.and_eq_true] at h
    obtain ⟨hf, h1⟩ := h
    have := okE_fi hf
    subst this
    refine PE.imp (pe_not (ha.pe X cx W false a' ox h1)) fun σ H Q ⟨w, r, kk, er, out⟩ => ?_
    refine ⟨w, r, kk, er, out.bind fun d H1 w1 v x1 k1 r1 o1 => ?_⟩
    obtain ⟨e, he, o1⟩ := o1.ofO
    simp only [Option.map_eq_some_iff] at he
    obtain ⟨b, hb, rfl⟩ := he
    have := tru_eq hb
    subst this
    exact ⟨b, r1.bl_inv, o1.valE k1 (.bl _)⟩
  · cases x <;> first | exact Bool.noConfusion (show false = true from h) | skip
    rename_i p a' pos
    cases p <;> first | exact Bool.noConfusion (show false = true from h) | skip
    have h1 : okE nm cx a false a' = true := h
    refine PT.imp (pt_not (ha.pt X cx W a' ox h1)) fun σ H Q ⟨w, r, kk, er, out⟩ => ?_
    refine ⟨w, r, kk, er, out.bindT (fun d S' _ e => by rw [e]; rfl) fun b H1 w1 x1 k1 o1 => ?_⟩
    obtain ⟨b', hb, o1⟩ := o1
    cases hb
    exact o1 H1 w1 .refl rfl k1
theorem snd_and {a b : E} (ha : SndE nm c G C k a) (hb : SndE nm c G C k b) : SndE nm c G C k (.and a b) := by
  refine ⟨fun X cx W fi x ox h => ?_, fun X cx W x ox h => ?_⟩
  · cases x <;> first | exact Bool.noConfusion (show false = true from h) | skip
    rename_i p xs pos
    match p, xs, h with
    | .And, a' :: b' :: rr, h =>
      simp only [okE, Bool.and_eq_true] at h
      obtain ⟨⟨hf, h1⟩, h2⟩ := h
      have := okE_fi hf
      subst this
      have pb : PE X (.BoolOp .And (b' :: rr) pos) (rdE c W (ev G C b)) := by
        cases rr with
        | nil => exact pe_one (hb.pe X cx W false b' ox h2)
        | cons z zs => exact hb.pe X cx W false _ ox h2
      refine PE.imp (pe_and (ha.pe X cx W false a' ox h1) pb) fun σ H Q ⟨w, r, kk, er, out⟩ => ?_
      refine ⟨w, r, kk, er, out.bind fun d H1 w1 v x1 k1 r1 o1 => ?_⟩
      split at o1
      · rename_i e
        have := tru_eq e; subst this
        exact ⟨true, r1.bl_inv, iteT ⟨w1, r, k1, er.ext x1 kk, o1⟩⟩
      · rename_i e
        have := tru_eq e; subst this
        exact ⟨false, r1.bl_inv, iteF (o1.valE k1 (.bl _))⟩
      · exact o1.elim
  · cases x <;> first | exact Bool.noConfusion (show false = true from h) | skip
    rename_i p xs pos
    match p, xs, h with
    | .And, a' :: b' :: rr, h =>
      simp only [okE, Bool.and_eq_true] at h
      obtain ⟨⟨hf, h1⟩, h2⟩ := h
      have pb : PW X (.BoolOp .And (b' :: rr) pos) (rdT c W (ev G C b)) := by
        cases rr with
        | nil => exact pw_and1 (hb.pt X cx W b' ox h2)
        | cons z zs => exact ⟨fun _ => (hb.pt X cx W _ ox h2).run⟩
      refine PT.imp (PW.pt (pw_and (ha.pt X cx W a' ox h1) pb)) fun σ H Q ⟨w, r, kk, er, out⟩ => ?_
      refine ⟨w, r, kk, er, out.bindT (fun d S' _ e => by rw [e]) fun b H1 w1 x1 k1 o1 => ?_⟩
      cases b with
      | true => exact iteT ⟨w1, r, k1, er.ext x1 kk, o1⟩
      | false =>
        obtain ⟨b', hb, o1⟩ := o1
        cases hb
        exact iteF (o1 H1 w1 .refl rfl k1)
theorem snd_or {a b : E} (ha : SndE nm c G C k a) (hb : SndE nm c G C k b) : SndE nm c G C k (.or a b) := by
  refine ⟨fun X cx W fi x ox h => ?_, fun X cx W x ox h => ?_⟩
  · cases x <;> first | exact Bool.noConfusion (show false = true from h) | skip
    rename_i p xs pos
    match p, xs, h with
    | .Or, a' :: b' :: rr, h =>
      simp only [okE, Bool.and_eq_true] at h
      obtain ⟨⟨hf, h1⟩, h2⟩ := h
      have := okE_fi hf
      subst this
      have pb : PE X (.BoolOp .Or (b' :: rr) pos) (rdE c W (ev G C b)) := by
        cases rr with
        | nil => exact pe_one (hb.pe X cx W false b' ox h2)
        | cons z zs => exact hb.pe X cx W false _ ox h2
      refine PE.imp (pe_or (ha.pe X cx W false a' ox h1) pb) fun σ H Q ⟨w, r, kk, er, out⟩ => ?_
      refine ⟨w, r, kk, er, out.bind fun d H1 w1 v x1 k1 r1 o1 => ?_⟩
      split at o1
      · rename_i e
        have := tru_eq e; subst this
        exact ⟨true, r1.bl_inv, iteT (o1.valE k1 (.bl _))⟩
      · rename_i e
        have := tru_eq e; subst this
        exact ⟨false, r1.bl_inv, iteF ⟨w1, r, k1, er.ext x1 kk, o1⟩⟩
      · exact o1.elim
  · cases x <;> first | exact Bool.noConfusion (show false = true from h) | skip
    rename_i p xs pos
    match p, xs, h with
    | .Or, a' :: b' :: rr, h =>
      simp only [okE, Bool.and_eq_true] at h
      obtain ⟨⟨hf, h1⟩, h2⟩ := h
      have pb : PW X (.BoolOp .Or (b' :: rr) pos) (rdT c W (ev G C b)) := by
        cases rr with
        | nil => exact pw_or1 (hb.pt X cx W b' ox h2)
        | cons z zs => exact ⟨fun _ => (hb.pt X cx W _ ox h2).run⟩
      refine PT.imp (PW.pt (pw_or (ha.pt X cx W a' ox h1) pb)) fun σ H Q ⟨w, r, kk, er, out⟩ => ?_
      refine ⟨w, r, kk, er, out.bindT (fun d S' _ e => by rw [e]) fun b H1 w1 x1 k1 o1 => ?_⟩
      cases b with
      | false => exact iteF ⟨w1, r, k1, er.ext x1 kk, o1⟩
      | true =>
        obtain ⟨b', hb, o1⟩ := o1
        cases hb
        exact iteT (o1 H1 w1 .refl rfl k1)
theorem snd_ite {t a b : E} (ht : SndE nm c G C k t) (ha : SndE nm c G C k a) (hb : SndE nm c G C k b) : SndE nm c G C k (.ite t a b) := by
  refine ⟨fun X cx W fi x ox h => ?_, fun X cx W x ox h => ?_⟩
  · cases x <;> first | exact Bool.noConfusion (show false = true from h) | skip
    rename_i t' a' b' pos
    simp only [okE, Bool.and_eq_true] at h
    obtain ⟨⟨⟨hf, h0⟩, h1⟩, h2⟩ := h
    have := okE_fi hf
    subst this
    refine PE.imp (pe_ifExp (ht.pt X cx W t' ox h0) (ha.pe X cx W false a' ox h1) (hb.pe X cx W false b' ox h2)) fun σ H Q ⟨w, r, kk, er, out⟩ => ?_
    refine ⟨w, r, kk, er, out.bindT (fun d S' _ e => by rw [e]) fun b H1 w1 x1 k1 o1 => ?_⟩
    cases b with
    | true => exact iteT ⟨w1, r, k1, er.ext x1 kk, o1⟩
    | false => exact iteF ⟨w1, r, k1, er.ext x1 kk, o1⟩
  · cases x <;> first | exact Bool.noConfusion (show false = true from h) | skip
    rename_i t' a' b' pos
    simp only [okE, Bool.and_eq_true] at h
    obtain ⟨⟨⟨hf, h0⟩, h1⟩, h2⟩ := h
    have p0 := ht.pt X cx W t' ox h0
    have p1 := ha.pt X cx W a' ox h1
    have p2 := hb.pt X cx W b' ox h2
    refine ⟨fun pins s σ H Q I hh => ?_⟩
    obtain ⟨w, r, kk, er, out⟩ := hh
    show wpAny _ _ (do if ← isTrue t' X.env (eval t' X.env) then isTrue a' X.env (eval a' X.env) else isTrue b' X.env (eval b' X.env)) _ _ _
    refine wpAny_bind (thn (p0.run pins s σ H (fun z H1 => if z = true then rdT c W (ev G C a) σ H1 Q else rdT c W (ev G C b) σ H1 Q) I ⟨w, r, kk, er, out.bindT (fun d S' _ e => by rw [e]) fun b H1 w1 x1 k1 o1 => ?_⟩) fun b s1 ⟨H1, I1, q⟩ => ?_)
    · cases b with
      | true => exact iteT ⟨w1, r, k1, er.ext x1 kk, o1⟩
      | false => exact iteF ⟨w1, r, k1, er.ext x1 kk, o1⟩
    · cases b with
      | true =>
        simp only [if_true] at q ⊢
        exact p1.run pins s1 σ H1 Q I1 q
      | false =>
        simp only [Bool.false_eq_true, if_false] at q ⊢
        exact p2.run pins s1 σ H1 Q I1 q
theorem cmpOf {X : Cx} {fi : Bool} {W : WX} {σ : L2.St} (hw : X.w = c.wd) (hu : X.A.units + 64 < cLine) (o : Cop) : OpR X (compareOp (copOf o)) (rOp fi c W σ fun S a b => cmpR S o a b) := by
  cases o
  · exact op_eqP hu
  · exact op_neP hu
  · exact op_ltP hu
  · exact op_leP
  · exact op_gtP hu
  · exact op_geP
  · exact op_inP hw hu
  · exact op_notinP hw hu
  · exact op_isP
  · exact op_isnotP
theorem snd_cmp (o : Cop) {a b : E} (ha : SndE nm c G C k a) (hb : SndE nm c G C k b) : SndE nm c G C k (.cmp o a b) := by
  refine ⟨fun X cx W fi x ox h => ?_, fun X cx W x ox h => ?_⟩
  · cases x <;> first | exact Bool.noConfusion (show false = true from h) | skip
    rename_i a' ps bs pos
    match ps, bs, h with
    | [p], [b'], h =>
      simp only [okE, Bool.and_eq_true, decide_eq_true_eq] at h
      obtain ⟨⟨⟨⟨hf, rfl⟩, h0⟩, h1⟩, h2⟩ := h
      have := okE_fi hf
      subst this
      refine ⟨fun pins s σ H Q I hh => (pe_cmpR (cmpOf (c := c) (fi := false) (W := W) (σ := σ) ox.wd ox.room.units o) (ha.pe X cx W false a' ox h1) (hb.pe X cx W false b' ox h2) (fine_mark h0)).run pins s σ H Q I ?_⟩
      obtain ⟨w, r, kk, er, out⟩ := hh
      refine ⟨w, r, kk, er, out.bind fun d H1 w1 v x1 k1 r1 o1 => ?_⟩
      refine ⟨w1, r, k1, er.ext x1 kk, o1.bind fun e H2 w2 u x2 k2 r2 o2 => ?_⟩
      exact ⟨w2, d, e, k2, r1.ext x2 k1, r2, o2⟩
  · cases x <;> first | exact Bool.noConfusion (show false = true from h) | skip
    rename_i a' ps bs pos
    match ps, bs, h with
    | [p], [b'], h =>
      simp only [okE, Bool.and_eq_true, decide_eq_true_eq] at h
      obtain ⟨⟨⟨⟨hf, rfl⟩, h0⟩, h1⟩, h2⟩ := h
      refine ⟨fun pins s σ H Q I hh => (pt_cmpR (cmpOf (c := c) (fi := false) (W := W) (σ := σ) ox.wd ox.room.units o) (ha.pe X cx W false a' ox h1) (hb.pe X cx W false b' ox h2) (fine_mark h0)).run pins s σ H Q I ?_⟩
      obtain ⟨w, r, kk, er, out⟩ := hh
      refine ⟨w, r, kk, er, OutE.bindT' out fun d H1 w1 v x1 k1 r1 o1 => ?_⟩
      refine ⟨w1, r, k1, er.ext x1 kk, OutE.bindT' o1 fun e H2 w2 u x2 k2 r2 o2 => ?_⟩
      exact ⟨w2, d, e, k2, r1.ext x2 k1, r2, o2.e⟩
theorem snd_chain (o q : Cop) {a b e : E} (ha : SndE nm c G C k a) (hb : SndE nm c G C k b) (he : SndE nm c G C k e) : SndE nm c G C k (.chain o q a b e) := by
  refine ⟨fun X cx W fi x ox h => ?_, fun X cx W x ox h => ?_⟩
  · cases x <;> first | exact Bool.noConfusion (show false = true from h) | skip
    rename_i a' ps bs pos
    match ps, bs, h with
    | [p, p'], [b', e'], h =>
      simp only [okE, Bool.and_eq_true, decide_eq_true_eq] at h
      obtain ⟨⟨⟨⟨⟨⟨⟨hf, rfl⟩, rfl⟩, h0⟩, h0'⟩, h1⟩, h2⟩, h3⟩ := h
      have := okE_fi hf
      subst this
      refine ⟨fun pins s σ H Q I hh => (pe_chain (cmpOf (c := c) (fi := false) (W := W) (σ := σ) ox.wd ox.room.units o) (cmpOf (c := c) (fi := false) (W := W) (σ := σ) ox.wd ox.room.units q) (ha.pe X cx W false a' ox h1) (hb.pe X cx W false b' ox h2) (he.pe X cx W false e' ox h3) (fine_mark h0')).run pins s σ H Q I ?_⟩
      obtain ⟨w, r, kk, er, out⟩ := hh
      refine ⟨w, r, kk, er, out.bind fun d H1 w1 v x1 k1 r1 o1 => ?_⟩
      refine ⟨w1, r, k1, er.ext x1 kk, o1.bind fun e H2 w2 u x2 k2 r2 o2 => ?_⟩
      refine ⟨w2, d, e, k2, r1.ext x2 k1, r2, o2.bind fun z H3 w3 t x3 k3 r3 o3 => ?_⟩
      split at o3
      · rename_i ez
        have := tru_eq ez; subst this
        refine ⟨true, r3.bl_inv, iteT ⟨w3, r, k3, ((er.ext x1 kk).ext x2 k1).ext x3 k2, o3.bind fun f H4 w4 y x4 k4 r4 o4 => ?_⟩⟩
        exact ⟨w4, e, f, k4, (r2.ext x3 k2).ext x4 k3, r4, o4⟩
      · rename_i ez
        have := tru_eq ez; subst this
        exact ⟨false, r3.bl_inv, iteF (o3.valE k3 (.bl _))⟩
      · exact o3.elim
  · cases x <;> first | exact Bool.noConfusion (show false = true from h) | skip
    rename_i a' ps bs pos
    match ps, bs, h with
    | [p, p'], [b', e'], h =>
      simp only [okE, Bool.and_eq_true, decide_eq_true_eq] at h
      obtain ⟨⟨⟨⟨⟨⟨⟨hf, rfl⟩, rfl⟩, h0⟩, h0'⟩, h1⟩, h2⟩, h3⟩ := h
      refine ⟨fun pins s σ H Q I hh => (pt_chain (cmpOf (c := c) (fi := false) (W := W) (σ := σ) ox.wd ox.room.units o) (cmpOf (c := c) (fi := false) (W := W) (σ := σ) ox.wd ox.room.units q) (ha.pe X cx W false a' ox h1) (hb.pe X cx W false b' ox h2) (he.pe X cx W false e' ox h3) (fine_mark h0')).run pins s σ H Q I ?_⟩
      obtain ⟨w, r, kk, er, out⟩ := hh
      refine ⟨w, r, kk, er, OutE.bindT' out fun d H1 w1 v x1 k1 r1 o1 => ?_⟩
      refine ⟨w1, r, k1, er.ext x1 kk, OutE.bindT' o1 fun e H2 w2 u x2 k2 r2 o2 => ?_⟩
      refine ⟨w2, d, e, k2, r1.ext x2 k1, r2, OutE.bindT' o2 fun z H3 w3 t x3 k3 r3 o3 => ?_⟩
      split at o3
      · rename_i ez
        have := tru_eq ez; subst this
        refine ⟨true, r3.bl_inv, iteT ⟨w3, r, k3, ((er.ext x1 kk).ext x2 k1).ext x3 k2, OutE.bindT' o3 fun f H4 w4 y x4 k4 r4 o4 => ?_⟩⟩
        exact ⟨w4, e, f, k4, (r2.ext x3 k2).ext x4 k3, r4, o4.e⟩
      · rename_i ez
        have := tru_eq ez; subst this
        obtain ⟨b2, hb2, o3⟩ := o3
        cases hb2
        exact ⟨false, r3.bl_inv, iteF ⟨false, rfl, o3 H3 w3 .refl rfl k3⟩⟩
      · exact o3.elim
end MP
end

section
set_option Elab.async false
set_option linter.all false
set_option maxRecDepth 100000
set_option maxHeartbeats 4000000
set_option autoImplicit false
namespace MP
open PySem L2 PySem.Spec PyProof.Rows
variable {nm : Nm} {c : Cfg} {G : Nat → Option D} {C : Call} {k : Nat}
theorem snds_nil : SndEs nm c G C k .nil := by
  refine ⟨fun X cx W xs ox h => ?_, fun _ _ e => nomatch e⟩
  cases xs with
  | nil => exact PA.imp pa_nil fun σ H Q ⟨w, r, kk, er, o⟩ => o H w [] .refl rfl kk .nil
  | cons x xs => exact Bool.noConfusion (show false = true from h)
theorem snds_cons {e : E} {es : Es} (he : SndE nm c G C k e) (hs : SndEs nm c G C k es) : SndEs nm c G C k (.cons e es) := by
  refine ⟨fun X cx W xs ox h => ?_, fun _ _ q => by cases q; exact he⟩
  cases xs with
  | nil => exact Bool.noConfusion (show false = true from h)
  | cons x xs =>
    simp only [okEs, Bool.and_eq_true] at h
    obtain ⟨⟨h0, h1⟩, h2⟩ := h
    refine PA.imp (pa_cons (he.pe X cx W false x ox h1) (hs.pa X cx W xs ox h2) (fine_star h0)) fun σ H Q ⟨w, r, kk, er, out⟩ => ?_
    refine ⟨w, r, kk, er, Out.bindA out fun d H1 w1 v x1 k1 r1 o1 => ?_⟩
    refine ⟨w1, r, k1, er.ext x1 kk, OutA.bindA o1 fun ds H2 w2 vs x2 k2 r2 o2 => ?_⟩
    exact o2 H2 w2 (v :: vs) .refl rfl k2 (.cons (r1.ext x2 k1) r2)
theorem snd_tup {es : Es} (hs : SndEs nm c G C k es) : SndE nm c G C k (.tup es) := by
  refine .of (fun X cx W fi x ox h => ?_) fun cx x h => ?_
  · cases x <;> first | exact Bool.noConfusion (show false = true from h) | skip
    rename_i xs _ pos
    simp only [okE, Bool.and_eq_true] at h
    obtain ⟨hf, h1⟩ := h
    have := okE_fi hf
    subst this
    refine PE.imp (pe_tup (hs.pa X cx W xs ox h1)) fun σ H Q ⟨w, r, kk, er, out⟩ => ?_
    refine ⟨w, r, kk, er, OutA.bind out fun ds H1 w1 vs x1 k1 r1 o1 => ?_⟩
    obtain ⟨hb, o1⟩ := o1.okI
    exact ⟨by rw [r1.length, ← big_eq]; exact of_decide_eq_true hb, fun p hp => o1.newT k1 r1 hp⟩
  · cases x <;> first | exact Bool.noConfusion (show false = true from h) | rfl
theorem snd_lst {es : Es} (hs : SndEs nm c G C k es) : SndE nm c G C k (.lst es) := by
  refine .of (fun X cx W fi x ox h => ?_) fun cx x h => ?_
  · cases x <;> first | exact Bool.noConfusion (show false = true from h) | skip
    rename_i xs pos
    have h1 : okEs nm cx es xs = true := h
    refine PE.imp (pe_lst (hs.pa X cx W xs ox h1)) fun σ H Q ⟨w, r, kk, er, out⟩ => ?_
    refine ⟨w, r, kk, er, OutA.bind out fun ds H1 w1 vs x1 k1 r1 o1 => ?_⟩
    obtain ⟨hb, o1⟩ := o1.okI
    exact ⟨by rw [r1.length, ← big_eq]; exact of_decide_eq_true hb, fun p hp => o1.newL k1 r1 hp⟩
  · cases x <;> first | exact Bool.noConfusion (show false = true from h) | rfl
/-! ### subscripts -/
theorem RpAll.atI {H : Hp} {w : Wl c} {vs : List V} {ds : List D} {i : Int} {d : D} (r : RpAll H w vs ds) (h : L2.atI ds i = some d) : ∃ v, L2.atI vs i = some v ∧ Rp H w v d := by
  unfold L2.atI at h ⊢
  simp only [Option.bind_eq_some_iff] at h
  obtain ⟨j, hj, hd⟩ := h
  obtain ⟨v, hv, rv⟩ := r.get hd
  exact ⟨v, by rw [r.length, hj]; exact hv, rv⟩
/-- d[y] of a dict -/
def rIxD (c : Cfg) : R2 := fun x y H Q => ∃ w : Wl c, ∃ a xs kvs kd vd, x = .ref a ∧ H a = some (DcO c.wd a xs) ∧ DkR H w xs kvs ∧ keyOk kd = true ∧ Rp H w y kd ∧ find kvs kd = some vd ∧ ∀ v, Rp H w v vd → Q v H
theorem ix_dct {X : Cx} (hw : X.w = c.wd) (hu : X.A.units + 64 < cLine) : IxR X (rIxD c) := by
  intro value slice pins s σ' H x y v u Q I rx ry hh hs
  obtain ⟨w, a, xs, kvs, kd, vd, rfl, ha, r, hk, rk, hf, q⟩ := hh
  obtain ⟨k0, hk0, hd, ds, rfl⟩ := keyOk_inv hk
  obtain ⟨b1, us, rfl, h1, h2⟩ := rk.tup_inv
  cases rx; cases ry
  obtain ⟨g1, g2, ys, g3, g4, g5⟩ := dct_at hw I ha r
  obtain ⟨n1, n2⟩ := nest_of I _ hk0 rk rfl
  obtain ⟨ka, vv, uu, e1, e2, e3⟩ := (find_at hk0 r g3).2 vd hf
  exact tail_any g5.typeIs PySem.F.slot_dict_getitem.lookup (wpAny_getItem_heap (knd := nestedKind X.prog X.w) (k := k0) (by show X.A.units + 1 + 8 < cLine; omega) ⟨n1, by omega⟩ g5 e1 ⟨vv, H, I.tok _, e2, q vv e3⟩) hs
theorem ix_D {X : Cx} {W : WX} {σ : L2.St} (hw : X.w = c.wd) (hu : X.A.units + 64 < cLine) : IxR X (rOp false c W σ fun S a b => ixD S a b) := by
  intro value slice pins s σ' H x y v u Q I rx ry hh hs
  refine (ix_list.or (ix_tup.or (ix_dct hw hu))) value slice pins s σ' H x y v u Q I rx ry ?_ hs
  obtain ⟨w, d, e, kk, rd, re, o⟩ := hh
  simp only [ixD] at o
  split at o
  · rename_i xs i h1
    obtain ⟨z, hz, o⟩ := o.ofO
    obtain ⟨a, us, rfl, h2, h3⟩ := viewS_rp kk h1 rd
    obtain ⟨t, ht, rt⟩ := h3.atI hz
    rcases h2 with h2 | h2
    · exact .inl ⟨a, us, i, t, rfl, re.int_inv, SqL.of h2, ht, o.valE kk rt⟩
    · exact .inr (.inl ⟨a, us, i, t, rfl, re.int_inv, SqT.of h2, ht, o.valE kk rt⟩)
  · exact o.elim
  · split at o
    · rename_i n e1
      have := asRef_eq e1
      subst this
      split at o
      · rename_i kvs q
        obtain ⟨a, rfl, ha⟩ := rd.ref_inv
        obtain ⟨xs, h1, h2⟩ := kk.obj n a _ ha q
        split at o
        · rename_i hk
          obtain ⟨z, hz, o⟩ := o.ofO
          exact .inr (.inr ⟨w, a, xs, kvs, _, z, rfl, h1, h2, hk, re, hz, fun v rv => o.valE kk rv⟩)
        · exact o.elim
      · exact o.elim
    · exact o.elim
theorem snd_ix {a i : E} (ha : SndE nm c G C k a) (hi : SndE nm c G C k i) : SndE nm c G C k (.ix a i) := by
  refine .of (fun X cx W fi x ox h => ?_) fun cx x h => ?_
  · cases x <;> first | exact Bool.noConfusion (show false = true from h) | skip
    rename_i a' i' pos
    simp only [okE, Bool.and_eq_true] at h
    obtain ⟨⟨⟨hf, h0⟩, h1⟩, h2⟩ := h
    have := okE_fi hf
    subst this
    refine ⟨fun pins s σ H Q I hh => (pe_ix (ix_D (c := c) (W := W) (σ := σ) ox.wd ox.room.units) (ha.pe X cx W false a' ox h1) (hi.pe X cx W false i' ox h2) (fine_ix h0)).run pins s σ H Q I ?_⟩
    obtain ⟨w, r, kk, er, out⟩ := hh
    refine ⟨w, r, kk, er, out.bind fun d H1 w1 v x1 k1 r1 o1 => ?_⟩
    refine ⟨w1, r, k1, er.ext x1 kk, o1.bind fun e H2 w2 u x2 k2 r2 o2 => ?_⟩
    exact ⟨w2, d, e, k2, r1.ext x2 k1, r2, o2⟩
  · cases x <;> first | exact Bool.noConfusion (show false = true from h) | rfl
/-! ### slices -/
theorem RpAll.cut {H : Hp} {w : Wl c} {vs : List V} {ds : List D} (r : RpAll H w vs ds) (lo hi : Option Int) : RpAll H w (cutV vs lo hi) (MP.cut ds lo hi) := by
  unfold cutV MP.cut
  rw [r.length]
  exact (r.drop _).take _
def rSl (fi : Bool) (c : Cfg) (W : WX) (σ : L2.St) : V → Option Int → Option Int → Hp → VK → Prop := fun x lo hi H Q => ∃ w : Wl c, ∃ d, Wok H w ∧ Rp H w x d ∧ Out fi c W σ H w Q (slcD w.S d lo hi)
theorem sl_D {X : Cx} {fi : Bool} {W : WX} {σ : L2.St} : SlR X (rSl fi c W σ) := by
  intro pins s σ' H x v vl vu lo hi sl Q I rx hs pl pu hh
  refine (sl_list.or (sl_tupA.or sl_str)) pins s σ' H x v vl vu lo hi sl Q I rx hs pl pu ?_
  obtain ⟨w, d, kk, rd, o⟩ := hh
  unfold slcD at o
  split at o
  · obtain ⟨a, us, rfl, h1, h2⟩ := rd.tup_inv
    refine .inr (.inl ⟨a, us, rfl, SqT.of h1, fun hw => ?_, fun hn p hp => o.newT kk (h2.cut lo hi) hp⟩)
    have e : cutV us lo hi = us := by
      unfold cutV
      rw [hw.1, hw.2]
      simp
    have rr := h2.cut lo hi
    rw [e] at rr
    exact o.val kk (.tup h1 rr)
  · obtain ⟨hb, o⟩ := o.okI
    exact .inr (.inr ⟨_, rd.str_inv, by rw [← big_eq]; exact of_decide_eq_true hb, o.val kk (.str _)⟩)
  · split at o
    · rename_i xs hx
      obtain ⟨a, us, rfl, h1, h2⟩ := viewL_rp kk hx rd
      exact .inl ⟨a, us, rfl, SqL.of h1, fun p hp => o.newL kk (h2.cut lo hi) hp⟩
    · exact o.elim
/-- an optional part of a slice -/
def OutP (c : Cfg) (W : WX) (σ : L2.St) (H : Hp) (w : Wl c) (Q : Option Int → Hp → Prop) : Res (Option D) → Prop
  | .bad => False
  | .ok d S' => ∃ i, optI d = some i ∧ ∀ H' w', Ext H w H' w' → w'.S = S' → Wok H' w' → Q i H'
  | .exc x S' => ∀ H' w', Ext H w H' w' → w'.S = S' → Wok H' w' → W (c.cv x) none σ H'
def rdP (c : Cfg) (W : WX) (f : Env → Store → Res (Option D)) : L2.St → Hp → (Option Int → Hp → Prop) → Prop := fun σ H Q => ∃ w : Wl c, ∃ r, Wok H w ∧ ER H w r σ ∧ OutP c W σ H w Q (f r w.S)
variable (nm c G C k) in
structure SndO (o : Oe) : Prop where
  po : ∀ (X : Cx) (cx : SC) (W : WX) (x : Option Expr), XO nm c G C k X cx W → okO nm cx o x = true → PO X x (rdP c W (evo G C o))
  pt : ∀ (X : Cx) (cx : SC) (W : WX) (x : Expr), XO nm c G C k X cx W → okO nm cx o (some x) = true → ∃ e, o = .some e ∧ PT X x (rdT c W (ev G C e))
theorem PO.imp {X : Cx} {e : Option Expr} {t t' : L2.St → Hp → (Option Int → Hp → Prop) → Prop} (h : PO X e t) (kk : ∀ σ H Q, t' σ H Q → t σ H Q) : PO X e t' := ⟨fun pins s σ H Q I q => h.run pins s σ H Q I (kk σ H Q q)⟩
theorem sndo_none : SndO nm c G C k .none := by
  refine ⟨fun X cx W x ox h => ?_, fun X cx W x ox h => ?_⟩
  · cases x with
    | none =>
      refine PO.imp po_none fun σ H Q ⟨w, r, kk, er, o⟩ => ?_
      obtain ⟨i, hi, o⟩ := o
      cases hi
      exact o H w .refl rfl kk
    | some x => exact Bool.noConfusion (show false = true from h)
  · exact Bool.noConfusion (show false = true from h)
theorem sndo_some {e : E} (he : SndE nm c G C k e) : SndO nm c G C k (.some e) := by
  refine ⟨fun X cx W x ox h => ?_, fun X cx W x ox h => ⟨e, rfl, he.pt X cx W x ox h⟩⟩
  cases x with
  | none => exact Bool.noConfusion (show false = true from h)
  | some x =>
    have h1 : okE nm cx e false x = true := h
    refine PO.imp (po_some (he.pe X cx W false x ox h1)) fun σ H Q ⟨w, r, kk, er, o⟩ => ⟨w, r, kk, er, ?_⟩
    simp only [evo] at o
    cases hr : ev G C e r w.S with
    | bad => rw [hr] at o; exact o
    | exc n S' => rw [hr] at o; exact o
    | ok d S' =>
      rw [hr] at o
      obtain ⟨i, hi, o⟩ := o
      intro H' w' v x1 es k1 r1
      cases d <;> simp only [optI, Option.some.injEq, reduceCtorEq] at hi
      subst hi
      exact ⟨_, r1.int_inv, o H' w' x1 es k1⟩
theorem snd_slc {a : E} {lo hi : Oe} (ha : SndE nm c G C k a) (hl : SndO nm c G C k lo) (hh : SndO nm c G C k hi) : SndE nm c G C k (.slc a lo hi) := by
  refine .of (fun X cx W fi x ox h => ?_) fun cx x h => ?_
  · cases x <;> first | exact Bool.noConfusion (show false = true from h) | skip
    rename_i a' i' pos
    cases i' <;> first | exact Bool.noConfusion (show false = true from h) | skip
    rename_i l' h' st' p2
    cases st' with
    | some _ => exact Bool.noConfusion (show false = true from h)
    | none =>
      simp only [okE, Bool.and_eq_true] at h
      obtain ⟨⟨h0, h1⟩, h2⟩ := h
      refine ⟨fun pins s σ H Q I hq => (pe_slice (sl_D (c := c) (fi := fi) (W := W) (σ := σ)) (ha.pe X cx W false a' ox h0) (hl.po X cx W l' ox h1) (hh.po X cx W h' ox h2)).run pins s σ H Q I ?_⟩
      obtain ⟨w, r, kk, er, out⟩ := hq
      refine ⟨w, r, kk, er, out.bind fun d H1 w1 v x1 k1 r1 o1 => ?_⟩
      refine ⟨w1, r, k1, er.ext x1 kk, ?_⟩
      cases hr : evo G C lo r w1.S with
      | bad => rw [hr] at o1; exact o1
      | exc n S' => rw [hr] at o1; exact o1
      | ok dl S2 =>
        rw [hr] at o1
        have o1 : Out fi c W σ H1 w1 Q (match optI dl with
          | none => .bad
          | some l' => (evo G C hi r S2).bind fun h S3 => match optI h with
            | none => .bad
            | some h' => slcD S3 d l' h') := o1
        cases el : optI dl with
        | none => rw [el] at o1; exact o1.elim
        | some l0 =>
          rw [el] at o1
          refine ⟨l0, el, fun H2 w2 x2 e2 k2 => ?_⟩
          subst e2
          have o1 := Out.trans o1 x2
          refine ⟨w2, r, k2, (er.ext x1 kk).ext x2 k1, ?_⟩
          cases hr2 : evo G C hi r w2.S with
          | bad => rw [hr2] at o1; exact o1
          | exc n S' => rw [hr2] at o1; exact o1
          | ok dh S3 =>
            rw [hr2] at o1
            have o1 : Out fi c W σ H2 w2 Q (match optI dh with
              | none => .bad
              | some h' => slcD S3 d l0 h') := o1
            cases eh : optI dh with
            | none => rw [eh] at o1; exact o1.elim
            | some h0 =>
              rw [eh] at o1
              refine ⟨h0, eh, fun H3 w3 x3 e3 k3 => ?_⟩
              subst e3
              exact ⟨w3, d, k3, (r1.ext x2 k1).ext x3 k2, Out.trans o1 x3⟩
  · cases x <;> first | exact Bool.noConfusion (show false = true from h) | rfl
end MP
end

section
set_option Elab.async false
set_option linter.all false
set_option maxRecDepth 100000
set_option maxHeartbeats 4000000
set_option autoImplicit false
namespace MP
open PySem L2 PySem.Spec PyProof.Rows
variable {c : Cfg}
/-! ### a new handle -/
section
variable {H : Hp} {w : Wl c}
theorem live_add {A : List Addr} {S : Store} {p a : Addr} {o : Ob} (hl : A.length = S.length) (h : live (A ++ [p]) (S ++ [o]) a) : live A S a ∨ a = p := by
  obtain ⟨n, q, h1, h2, h3⟩ := h
  rcases Nat.lt_or_ge n A.length with hn | hn
  · rw [List.getElem?_append_left hn] at h1
    rw [List.getElem?_append_left (by omega)] at h2
    exact .inl ⟨n, q, h1, h2, h3⟩
  · rw [List.getElem?_append_right hn] at h1
    cases e : n - A.length with
    | zero => rw [e] at h1; simp at h1; exact .inr h1.symm
    | succ m => rw [e] at h1; simp at h1
theorem mv_add (k : Wok H w) {p : Addr} {o : Ob} {ho : HO} (hp : H p = none) : Mv H w (upd H p ho) ⟨w.A ++ [p], w.S ++ [o], w.Z⟩ := by
  refine ⟨fun n a h => ?_, fun a xs h n => ⟨by rw [upd_ne (ne_of_none h hp)]; exact h, ?_⟩, fun a xs h => by rw [upd_ne (ne_of_none h hp)]; exact h, fun a o u h => by rw [upd_ne (ne_of_none h hp)]; exact h⟩
  · have hn : n < w.A.length := by
      rcases Nat.lt_or_ge n w.A.length with q | q
      · exact q
      · rw [List.getElem?_eq_none q] at h; cases h
    show (w.A ++ [p])[n]? = some a
    rw [List.getElem?_append_left hn]; exact h
  · rintro (z | z)
    · rcases live_add k.len z with z | rfl
      · exact n (.inl z)
      · rw [hp] at h; cases h
    · exact n (.inr z)
theorem ext_add (k : Wok H w) {p : Addr} {o : Ob} {ho : HO} (hp : H p = none) : Ext H w (upd H p ho) ⟨w.A ++ [p], w.S ++ [o], w.Z⟩ := by
  refine ⟨⟨[p], rfl⟩, rfl, fun a u h n => ⟨by rw [upd_ne (ne_of_none h hp)]; exact h, fun z => ?_⟩, fun n xs h => ?_⟩
  · rcases live_add k.len z with z | rfl
    · exact n z
    · rw [hp] at h; cases h
  · have hn : n < w.S.length := by
      rcases Nat.lt_or_ge n w.S.length with q | q
      · exact q
      · rw [List.getElem?_eq_none q] at h; cases h
    show (w.S ++ [o])[n]? = _
    rw [List.getElem?_append_left hn]; exact h
theorem wok_addO (k : Wok H w) {p : Addr} {ob : Ob} {ho : HO} (hp : H p = none) (r : ObR (upd H p ho) (⟨w.A ++ [p], w.S ++ [ob], w.Z⟩ : Wl c) p ob) : Wok (upd H p ho) (⟨w.A ++ [p], w.S ++ [ob], w.Z⟩ : Wl c) := by
  have m := mv_add (o := ob) (ho := ho) k hp
  have old : ∀ (n : Nat) (a : Addr) (o : Ob), (w.A ++ [p])[n]? = some a → (w.S ++ [ob])[n]? = some o → (w.A[n]? = some a ∧ w.S[n]? = some o) ∨ (n = w.A.length ∧ a = p ∧ o = ob) := fun n a o h1 h2 => by
    rcases Nat.lt_or_ge n w.A.length with hn | hn
    · rw [List.getElem?_append_left hn] at h1
      rw [List.getElem?_append_left (by rw [← k.len]; exact hn)] at h2
      exact .inl ⟨h1, h2⟩
    · rw [List.getElem?_append_right hn] at h1
      rw [List.getElem?_append_right (by rw [← k.len]; exact hn), ← k.len] at h2
      cases e : n - w.A.length with
      | zero =>
        rw [e] at h1 h2
        simp at h1 h2
        exact .inr ⟨by omega, h1.symm, h2.symm⟩
      | succ q => rw [e] at h1; simp at h1
  have alv : ∀ (n : Nat) (a : Addr) (o : Ob), w.A[n]? = some a → w.S[n]? = some o → o.alive = true → a ≠ p := fun n a o h1 h2 h3 e => by
    obtain ⟨ys, q, _⟩ := (k.obj n a o h1 h2).alive h3
    rw [e, hp] at q; cases q
  refine ⟨by show (w.A ++ [p]).length = (w.S ++ [_]).length; rw [List.length_append, List.length_append, k.len]; rfl, fun i j a o q h1 h2 h3 h4 h5 h6 => ?_, fun n a o h1 h2 => ?_, fun a z => ?_, fun a z => ?_⟩
  · rcases old i a o h1 h3 with ⟨g1, g2⟩ | ⟨g1, g2, g3⟩
    · rcases old j a q h2 h5 with ⟨g4, g5⟩ | ⟨g4, g5, g6⟩
      · exact k.inj i j a o q g1 g4 g2 h4 g5 h6
      · exact absurd g5 (alv i a o g1 g2 h4)
    · rcases old j a q h2 h5 with ⟨g4, g5⟩ | ⟨g4, g5, g6⟩
      · exact absurd g2 (alv j a q g4 g5 h6)
      · omega
  · rcases old n a o h1 h2 with ⟨g1, g2⟩ | ⟨g1, g2, g3⟩
    · refine (k.obj n a o g1 g2).ext m fun al => ?_
      rw [upd_ne (alv n a o g1 g2 al)]
    · subst g2 g3
      exact r
  · rcases live_add k.len z with z | rfl
    · exact k.nz a z
    · intro q
      obtain ⟨u, e⟩ := k.tr a q
      rw [hp] at e; cases e
  · obtain ⟨u, e⟩ := k.tr a z
    exact ⟨u, by rw [upd_ne (ne_of_none e hp)]; exact e⟩
theorem wok_addL (k : Wok H w) {p : Addr} {xs : List V} {ds : List D} (hp : H p = none) (r : RpAll H w xs ds) : Wok (upd H p (.lst xs)) (⟨w.A ++ [p], w.S ++ [.lst ds], w.Z⟩ : Wl c) :=
  wok_addO k hp ⟨xs, upd_same, r.mv (mv_add k hp)⟩
/-! ### a store to a live object -/
theorem live_set {A : List Addr} {S : Store} {n : Nat} {a : Addr} {o o' : Ob} (h : S[n]? = some o) (al : o.alive = true) : live A (S.set n o') a → live A S a := by
  rintro ⟨m, q, h1, h2, h3⟩
  by_cases e : n = m
  · subst e
    exact ⟨n, o, h1, h, al⟩
  · rw [List.getElem?_set_ne e] at h2
    exact ⟨m, q, h1, h2, h3⟩
theorem set_some {S : Store} {n m : Nat} {o' q : Ob} (h : (S.set n o')[m]? = some q) : (m = n ∧ q = o') ∨ (n ≠ m ∧ S[m]? = some q) := by
  by_cases e : n = m
  · subst e
    by_cases hl : n < S.length
    · rw [List.getElem?_set_self hl] at h
      cases h; exact .inl ⟨rfl, rfl⟩
    · rw [List.getElem?_eq_none (by rw [List.length_set]; omega)] at h; cases h
  · rw [List.getElem?_set_ne e] at h
    exact .inr ⟨e, h⟩
theorem store_mv (k : Wok H w) {n : Nat} {a : Addr} {o o' : Ob} {ho : HO} (ha : w.A[n]? = some a) (hs : w.S[n]? = some o) (al : o.alive = true) : Mv H w (upd H a ho) ({ w with S := w.S.set n o' } : Wl c) := by
  have la : live w.A w.S a := ⟨n, o, ha, hs, al⟩
  have nt : ∀ b xs, H b = some (.tup xs) → b ≠ a := fun b xs h z => k.not_tup (z ▸ h) la
  have nf : ∀ b o u, H b = some (.frz o u) → b ≠ a := fun b o u h z => k.not_frz (z ▸ h) la
  refine ⟨fun m b h => h, fun b xs h nm => ⟨?_, ?_⟩, fun b xs h => ?_, fun b ob u h => ?_⟩
  · rw [upd_ne (fun z => nm (.inl (by rw [z]; exact la)))]; exact h
  · rintro (z | z)
    · exact nm (.inl (live_set hs al z))
    · exact nm (.inr z)
  · rw [upd_ne (nt b xs h)]; exact h
  · rw [upd_ne (nf b ob u h)]; exact h
theorem store_ext (k : Wok H w) {n : Nat} {a : Addr} {o o' : Ob} {ho : HO} (ha : w.A[n]? = some a) (hs : w.S[n]? = some o) (al : o.alive = true) (nl : ∀ xs, o ≠ .lck xs) : Ext H w (upd H a ho) ({ w with S := w.S.set n o' } : Wl c) := by
  have la : live w.A w.S a := ⟨n, o, ha, hs, al⟩
  refine ⟨⟨[], by simp⟩, rfl, fun b u h nb => ⟨?_, fun z => nb (live_set hs al z)⟩, fun m xs h => ?_⟩
  · rw [upd_ne (fun z => nb (by rw [z]; exact la))]; exact h
  · show (w.S.set n o')[m]? = _
    rw [List.getElem?_set_ne (fun z => ?_)]
    · exact h
    · subst z
      rw [hs] at h
      exact nl xs (Option.some.inj h)
theorem store_wokO (k : Wok H w) {n : Nat} {a : Addr} {o o' : Ob} {ho : HO} (ha : w.A[n]? = some a) (hs : w.S[n]? = some o) (al : o.alive = true) (r : ObR (upd H a ho) ({ w with S := w.S.set n o' } : Wl c) a o') : Wok (upd H a ho) ({ w with S := w.S.set n o' } : Wl c) := by
  have m := store_mv (o' := o') (ho := ho) k ha hs al
  have hal : ∀ (m : Nat) (q : Ob), (w.S.set n o')[m]? = some q → q.alive = true → ∃ q', w.S[m]? = some q' ∧ q'.alive = true := fun m q h hq => by
    rcases set_some h with ⟨rfl, rfl⟩ | ⟨_, h⟩
    · exact ⟨o, hs, al⟩
    · exact ⟨q, h, hq⟩
  refine ⟨by show w.A.length = (w.S.set n _).length; rw [List.length_set]; exact k.len, fun i j b q q2 h1 h2 h3 h4 h5 h6 => ?_, fun i b q h1 h2 => ?_, fun b z => k.nz b (live_set hs al z), fun b z => ?_⟩
  · obtain ⟨q', g1, g2⟩ := hal i q h3 h4
    obtain ⟨q2', g3, g4⟩ := hal j q2 h5 h6
    exact k.inj i j b q' q2' h1 h2 g1 g2 g3 g4
  · rcases set_some h2 with ⟨rfl, rfl⟩ | ⟨e, h2⟩
    · have : b = a := by rw [ha] at h1; exact (Option.some.inj h1).symm
      subst this
      exact r
    · refine (k.obj i b q h1 h2).ext m fun alq => ?_
      rw [upd_ne (fun z => ?_)]
      subst z
      exact e (k.inj n i b o q ha h1 hs al h2 alq)
  · obtain ⟨u, e⟩ := k.tr b z
    refine ⟨u, ?_⟩
    rw [upd_ne (fun y => ?_)]
    · exact e
    · subst y
      exact k.nz b ⟨n, o, ha, hs, al⟩ z
theorem store_wok (k : Wok H w) {n : Nat} {a : Addr} {o : Ob} {xs : List V} {ds : List D} (ha : w.A[n]? = some a) (hs : w.S[n]? = some o) (al : o.alive = true) (r : RpAll H w xs ds) : Wok (upd H a (.lst xs)) ({ w with S := w.S.set n (.lst ds) } : Wl c) :=
  store_wokO k ha hs al ⟨xs, upd_same, r.mv (store_mv k ha hs al)⟩
/-! ### an object dies: nothing else changes -/
theorem kill_ext (k : Wok H w) {n : Nat} {a : Addr} {o : Ob} (ha : w.A[n]? = some a) (hs : w.S[n]? = some o) (al : o.alive = true) (nl : ∀ xs, o ≠ .lck xs) : Ext H w H ({ w with S := w.S.set n .dead } : Wl c) := by
  refine ⟨⟨[], by simp⟩, rfl, fun b u h nb => ⟨h, fun z => nb (live_set hs al z)⟩, fun m xs h => ?_⟩
  show (w.S.set n .dead)[m]? = _
  rw [List.getElem?_set_ne (fun z => ?_)]
  · exact h
  · subst z
    rw [hs] at h
    exact nl xs (Option.some.inj h)
theorem kill_wok (k : Wok H w) {n : Nat} {a : Addr} {o : Ob} (ha : w.A[n]? = some a) (hs : w.S[n]? = some o) (al : o.alive = true) (nl : ∀ xs, o ≠ .lck xs) : Wok H ({ w with S := w.S.set n .dead } : Wl c) := by
  have m := (kill_ext k ha hs al nl).mv k
  have hal : ∀ (m : Nat) (q : Ob), (w.S.set n .dead)[m]? = some q → q.alive = true → w.S[m]? = some q := fun m q h hq => by
    rcases set_some h with ⟨rfl, rfl⟩ | ⟨_, h⟩
    · cases hq
    · exact h
  refine ⟨by show w.A.length = (w.S.set n _).length; rw [List.length_set]; exact k.len, fun i j b q q2 h1 h2 h3 h4 h5 h6 => k.inj i j b q q2 h1 h2 (hal i q h3 h4) h4 (hal j q2 h5 h6) h6, fun i b q h1 h2 => ?_, fun b z => k.nz b (live_set hs al z), k.tr⟩
  rcases set_some h2 with ⟨rfl, rfl⟩ | ⟨e, h2⟩
  · exact trivial
  · exact (k.obj i b q h1 h2).ext m fun _ => rfl
theorem kill_dead (k : Wok H w) {n : Nat} {a : Addr} {o : Ob} (ha : w.A[n]? = some a) (hs : w.S[n]? = some o) (al : o.alive = true) : ¬ live w.A (w.S.set n .dead) a := by
  rintro ⟨m, q, h1, h2, h3⟩
  rcases set_some h2 with ⟨rfl, rfl⟩ | ⟨e, h2⟩
  · cases h3
  · exact e (k.inj n m a o q ha h1 hs al h2 h3)
end
mutual
theorem freeze_ok : ∀ (n : Nat) {d d' : D} {S' : Store} {H : Hp} {w : Wl c} {v : V}, freeze n d w.S = some (d', S') → Wok H w → Rp H w v d → Ext H w H ({ w with S := S' } : Wl c) ∧ Wok H ({ w with S := S' } : Wl c) ∧ Rp H ({ w with S := S' } : Wl c) v d'
  | 0, _, _, _, _, _, _, h, _, _ => by cases h
  | n + 1, d, d', S', H, w, v, h, k, r => by
    unfold freeze at h
    split at h
    · cases h
      exact ⟨.refl, k, r⟩
    · rename_i m e
      have := asRef_eq e
      subst this
      obtain ⟨a, rfl, ha⟩ := r.ref_inv
      split at h
      · rename_i xs hx
        split at h
        · rename_i ys S1 hy
          cases h
          obtain ⟨vs, h1, h2⟩ := k.obj m a _ ha hx
          have x1 := kill_ext k ha hx rfl (fun _ => by simp)
          have k1 := kill_wok k ha hx rfl (fun _ => by simp)
          obtain ⟨x2, k2, r2⟩ := freezes_ok n (w := ({ w with S := w.S.set m .dead } : Wl c)) hy k1 (h2.ext x1 k)
          refine ⟨x1.trans x2, k2, .lst h1 ?_ r2⟩
          have nl := (x2.keep a _ h1 (kill_dead k ha hx rfl)).2
          rintro (z | z)
          · exact nl z
          · exact k.nz a ⟨m, _, ha, hx, rfl⟩ z
        · cases h
      · cases h
theorem freezes_ok : ∀ (n : Nat) {ds ds' : List D} {S' : Store} {H : Hp} {w : Wl c} {vs : List V}, mapFz (freeze n) ds w.S = some (ds', S') → Wok H w → RpAll H w vs ds → Ext H w H ({ w with S := S' } : Wl c) ∧ Wok H ({ w with S := S' } : Wl c) ∧ RpAll H ({ w with S := S' } : Wl c) vs ds'
  | n, [], _, _, _, _, _, h, k, r => by
    cases h; cases r
    exact ⟨.refl, k, .nil⟩
  | n, d :: ds, ds', S', H, w, vs, h, k, r => by
    unfold mapFz at h
    split at h
    · rename_i y S1 hy
      split at h
      · rename_i ys S2 hys
        cases h
        cases r with
        | cons r1 r2 =>
          obtain ⟨x1, k1, q1⟩ := freeze_ok n hy k r1
          obtain ⟨x2, k2, q2⟩ := freezes_ok n (w := ({ w with S := S1 } : Wl c)) hys k1 (r2.ext x1 k)
          exact ⟨x1.trans x2, k2, .cons (q1.ext x2 k1) q2⟩
      · cases h
    · cases h
end
end MP
end

section
set_option Elab.async false
set_option linter.all false
set_option maxRecDepth 100000
set_option maxHeartbeats 4000000
set_option autoImplicit false
namespace MP
open PySem L2 PySem.Spec PyProof.Rows
variable {nm : Nm} {c : Cfg} {G : Nat → Option D} {C : Call} {k : Nat}
/-- a new list becomes a handle -/
theorem out_mt {W : WX} {σ : L2.St} {H : Hp} {w : Wl c} {Q : VK} {r : Res D} (o : OutE c W σ H w Q (r.bind fun x S1 => match x with
    | .list xs => .ok (rf S1.length) (S1 ++ [.lst xs])
    | _ => .bad)) : Out true c W σ H w Q r := by
  cases r with
  | bad => exact o
  | exc n S' => exact o
  | ok d S' =>
    simp only [Res.bind] at o
    split at o
    · rename_i ds
      refine ⟨ds, rfl, fun H' w' p xs x1 e k1 rp hp => ?_⟩
      subst e
      refine o (upd H' p (.lst xs)) ⟨w'.A ++ [p], w'.S ++ [.lst ds], w'.Z⟩ (.ref p) (x1.trans (ext_add k1 hp)) rfl (wok_addL k1 hp rp) (.ref ?_)
      show (w'.A ++ [p])[w'.S.length]? = some p
      rw [← k1.len, List.getElem?_append_right (Nat.le_refl _)]
      simp
    · exact o.elim
theorem mt_rd {W : WX} {e : E} {σ : L2.St} {H : Hp} {Q : VK} (h : rdE c W (ev G C (.mt e)) σ H Q) : rdG true c W (ev G C e) σ H Q := by
  obtain ⟨w, r, kk, er, o⟩ := h
  exact ⟨w, r, kk, er, out_mt o⟩
theorem out_fz {W : WX} {σ : L2.St} {H : Hp} {w : Wl c} {Q : VK} {r : Res D} (o : OutE c W σ H w Q (r.bind fun x S1 => match freeze 4 x S1 with
    | some (y, S2) => .ok y S2
    | none => .bad)) : OutE c W σ H w Q r := by
  refine Out.bind o fun d H1 w1 v x1 k1 r1 o1 => ?_
  split at o1
  · rename_i y S2 hy
    obtain ⟨x2, k2, r2⟩ := freeze_ok 4 hy k1 r1
    exact o1 H1 _ v x2 rfl k2 r2
  · exact o1.elim
theorem snd_mt {e : E} (he : SndE nm c G C k e) (pl : ∀ (cx : SC) (x : Expr), isFr e = true → okE nm cx e true x = true → plainT x = true) : SndE nm c G C k (.mt e) := by
  refine .of (fun X cx W fi x ox h => ?_) fun cx x h => ?_
  · simp only [okE, Bool.and_eq_true] at h
    obtain ⟨⟨hf, hr⟩, h1⟩ := h
    have := okE_fi hf
    subst this
    exact PE.imp (he.pe X cx W true x ox h1) fun σ H Q hh => mt_rd hh
  · simp only [okE, Bool.and_eq_true] at h
    exact pl cx x h.1.2 h.2
theorem snd_fz {e : E} (he : SndE nm c G C k e) : SndE nm c G C k (.fz e) := by
  refine ⟨fun X cx W fi x ox h => ?_, fun X cx W x ox h => ?_⟩
  · simp only [okE, Bool.and_eq_true] at h
    obtain ⟨hf, h1⟩ := h
    have := okE_fi hf
    subst this
    exact PE.imp (he.pe X cx W false x ox h1) fun σ H Q ⟨w, r, kk, er, o⟩ => ⟨w, r, kk, er, out_fz o⟩
  · simp only [okE, Bool.and_eq_true] at h
    refine PT.imp (he.pt X cx W x ox h.2) fun σ H Q ⟨w, r, kk, er, o⟩ => ⟨w, r, kk, er, ?_⟩
    simp only [ev] at o
    cases hr : ev G C e r w.S with
    | bad => rw [hr] at o; exact o
    | exc n S' => rw [hr] at o; exact o
    | ok d S' =>
      rw [hr] at o
      simp only [Res.bind] at o
      split at o
      · rename_i y S2 hy
        obtain ⟨b, hb, o⟩ := o
        have e1 := tru_eq hb
        subst e1
        have ed : d = .bool b ∧ S2 = S' := by
          unfold freeze at hy
          split at hy
          · cases hy; exact ⟨rfl, rfl⟩
          · split at hy
            · split at hy
              · cases hy
              · cases hy
            · cases hy
        obtain ⟨rfl, rfl⟩ := ed
        exact ⟨b, rfl, o⟩
      · exact o.elim
/-! ### {} -/
theorem pe_dct {X : Cx} {pos : Pos} (hw : X.w = c.wd) : PE X (.Dict [] [] pos) (fun _ H Q => ∀ p, H p = none → Q (.ref p) (upd H p (DcO c.wd p []))) := by
  refine ⟨fun pins s σ H Q I h => ?_⟩
  refine wpAny_Dict_empty ⟨.ref s.heap.objs.size, _, I.laid (a := s.heap.objs.size) (o := DcO c.wd s.heap.objs.size []) (t' := s.toks) (fun _ _ q => Heap.get?_push_of_some _ q) (Nat.le_refl _) ?_, rfl, h _ (I.hok.fresh (Nat.le_refl _))⟩
  rw [← hw]
  exact dcO_ok (beq_eq_false_iff_ne.mpr (Ne.symm (Nat.ne_of_lt I.big))) (Nat.zero_le _) .nil (Heap.DictOfH.new s.heap)
theorem snd_dct : SndE nm c G C k .dct := by
  refine .of (fun X cx W fi x ox h => ?_) fun cx x h => ?_
  · cases x <;> first | exact Bool.noConfusion (show false = true from h) | skip
    rename_i ks vs pos
    match ks, vs, h with
    | [], [], h =>
      have := okE_fi (show (!fi) = true from h)
      subst this
      refine PE.imp (pe_dct ox.wd) fun σ H Q ⟨w, r, kk, er, o⟩ => fun p hp => ?_
      refine o (upd H p (DcO c.wd p [])) (⟨w.A ++ [p], w.S ++ [.dct []], w.Z⟩ : Wl c) (.ref p) (ext_add kk hp) rfl (wok_addO (ob := .dct []) kk hp ⟨[], upd_same, .nil⟩) (.ref ?_)
      show (w.A ++ [p])[w.S.length]? = some p
      rw [← kk.len, List.getElem?_append_right (Nat.le_refl _)]
      simp
  · cases x <;> first | exact Bool.noConfusion (show false = true from h) | rfl
/-! ### calls -/
theorem out_sw {W : WX} {σ : L2.St} {H : Hp} {w : Wl c} {Q : VK} {r : Res D} (o : OutE c W σ H w Q r) : OutE c (fun cls d _ H' => WE W σ cls d H') [] H w Q r := by
  cases r with
  | bad => exact o
  | ok d S' => exact o
  | exc n S' => exact o
theorem okEs_fine {cx : SC} {es : Es} {xs : List Expr} {env : PySem.Env} (h : okEs nm cx es xs = true) : (∀ x ∈ xs, fine x = true) := by
  induction xs generalizing es with
  | nil => intro x hx; cases hx
  | cons y ys ih =>
    cases es with
    | nil => exact Bool.noConfusion (show false = true from h)
    | cons e es =>
      simp only [okEs, Bool.and_eq_true] at h
      intro x hx
      rcases List.mem_cons.mp hx with rfl | hx
      · exact h.1.1
      · exact ih h.2 x hx
theorem star_all {env : PySem.Env} : ∀ {xs : List Expr}, (∀ x ∈ xs, fine x = true) → starEach xs env = xs.map fun x => (false, eval x env)
  | [], _ => rfl
  | x :: xs, h => by rw [fine_star (h x (List.mem_cons_self ..)), star_all fun y hy => h y (List.mem_cons_of_mem _ hy)]; rfl
theorem back_any {pos : Pos} {env : PySem.Env} {xs : List Expr} (h : ∀ x ∈ xs, fine x = true) : (backTo pos (starEach xs env)).any (·.1) = false := by
  rw [star_all h]
  unfold backTo
  rw [List.map_map, List.any_map]
  apply List.any_eq_false.mpr
  intro x _
  simp
theorem back_all {pos : Pos} {env : PySem.Env} {xs : List Expr} (h : ∀ x ∈ xs, fine x = true) : (backTo pos (starEach xs env)).all (fun x => !x.1) = true := by
  rw [star_all h]
  unfold backTo
  rw [List.map_map, List.all_map]
  apply List.all_eq_true.mpr
  intro x _
  simp
theorem pe_callS0 {X : Cx} {CX : CXT} {k : Nat} {f : Addr} {fd : FuncData} {ps : List Str} {sp : Sp} {E : L2.St → XK} {x : Str} {p pos : Pos} (F : FnOk X.prog X.w X.K X.mg X.base CX k f fd ps sp) (hr : Room k X.A) (hg : Gl X x) (hm : X.mg x = some (.ref f)) (hk : PySem.W.keepIn X.K (.ref f) = true) (hb : Binds X.K fd ps []) (hx : ∀ σ, PassesAt CX X σ (E σ))
    (hdb : (x == ("__debug__" : Str)) = false) : PE X (.Call (.Name x p) [] [] pos) (fun σ H Q => sp [] H Q (E σ)) := by
  refine ⟨fun pins s σ H Q I h => ?_⟩
  refine wpAny_Call_Name_kw (ld_glob I hg hm ?_ hdb)
  exact PySem.W.callWith_K0 I.kIn hk (run_fnS (us := []) (vs := []) F hr hb (hx σ) I .nil h)
theorem snd_call (f : Nat) {es : Es} (hs : SndEs nm c G C k es) : SndE nm c G C k (.call f es) := by
  refine .of (fun X cx W fi x ox h => ?_) fun cx x h => ?_
  · cases x <;> first | exact Bool.noConfusion (show false = true from h) | skip
    rename_i fe xs kws pos
    cases fe <;> first | exact Bool.noConfusion (show false = true from h) | skip
    rename_i y p
    cases kws with
    | cons _ _ => exact Bool.noConfusion (show false = true from h)
    | nil =>
      simp only [okE, Bool.and_eq_true] at h
      obtain ⟨hf, h⟩ := h
      have := okE_fi hf
      subst this
      split at h
      · rename_i x' n hn
        simp only [Bool.and_eq_true, decide_eq_true_eq] at h
        obtain ⟨⟨⟨⟨rfl, hl⟩, hg⟩, hd⟩, ha⟩ := h
        obtain ⟨a, fd, ps, hps, hm, hk, hb, F⟩ := ox.tb.fn f y n hn
        have hfi := okEs_fine (env := X.env) ha
        cases xs with
        | nil =>
          refine PE.imp (pe_callS0 F ox.room (gl_of ox.sc hg) hm hk hb (fun σ => passAt ox.tk σ) (by simpa using hd)) fun σ H Q ⟨w, r, kk, er, out⟩ => ?_
          cases es with
          | nil => exact ⟨w, [], kk, .nil, out_sw out⟩
          | cons _ _ => exact Bool.noConfusion (show false = true from ha)
        | cons z zs =>
          refine PE.imp (pe_callS F ox.room (gl_of ox.sc hg) hm hk hb (fun σ => passAt ox.tk σ) (hs.pa X cx W (z :: zs) ox ha) (by simpa using hd) (fine_star (hfi z (List.mem_cons_self ..))) ?_) fun σ H Q ⟨w, r, kk, er, out⟩ => ?_
          · exact back_any fun x hx => hfi x (List.mem_cons_of_mem _ hx)
          · exact ⟨w, r, kk, er, OutA.bind out fun ds H1 w1 vs x1 k1 r1 o1 => ⟨w1, ds, k1, r1, out_sw o1⟩⟩
      · cases h
  · cases x <;> first | exact Bool.noConfusion (show false = true from h) | rfl
end MP
end

section
set_option Elab.async false
set_option linter.all false
set_option maxRecDepth 100000
set_option maxHeartbeats 4000000
set_option autoImplicit false
namespace MP
open PySem L2 PySem.Spec PyProof.Rows
/-! ### set(xs), xs a list of ints -/
abbrev sO (W : World) : Obj := { cls := .type "set", dict := none, data := .set #[] 0 (.fresh 0 0 (!W.params.followText "set-order")) }
section
variable {Pr : Program} {W : World} {Ar : Around} {Ex : Value → Shared → Prop} {st : Shared}
theorem set_ints {l : Addr} {its : Array Value} (ks : List Int) {Q : Value → Shared → Prop} (hh : Ar.handled = none) (hl : st.heap.IsList l its) (hit : IntsAre its.toList ks) (hb : ks.length + 1 < scanBound)
    (q : ∀ (g : Heap) (tk n : Nat), SetR W g st.heap.objs.size (fun j => decide (j ∈ ks)) n → n ≤ ks.length → (∀ b o, st.heap.get? b = some o → g.get? b = some o) → Q (.ref st.heap.objs.size) { st with heap := g, toks := tk }) :
    wpAny (model Pr W) Ar (call (.type "set") [.ref l]) Q Ex st := by
  have zs : its.size = ks.length := (Array.length_toList (xs := its)).symm.trans (IntsAre.length hit)
  obtain ⟨c, tl, m1⟩ := F.called_set.mro
  have m2 := F.called_set.made; have m3 := F.called_set.sub
  refine wpAny_call (codeAny_of_tree (show wpAny _ _ (callAny (.type "set") _) _ _ _ from ?_))
  refine wpAny_pure ⟨Code.quiet_builtin _ (by decide +kernel), codeAny_builtin F.entry_type_call (by
    rw [Around.under_plain (weight_type_call_type "set" [.ref l] []) rfl]
    have m4 := F.called_set.notType; have m5 := F.called_set.canCreate; have m6 := F.typeCall_set_1 (.ref l)
    repeat (any_goals (first | assumption | wp_step)); skip
    refine codeAny_mono (code_set_led1 (.ref l) (E := Ex) (Q₁ := fun ob t1 => ob = .ref st.heap.objs.size ∧ t1 = { st with heap := st.heap.push (sO W) }) ⟨rfl, rfl⟩) fun r t1 hr => ?_
    rcases r with e | fl; · exact hr
    cases fl <;> first | exact hr.elim | skip
    obtain ⟨rfl, rfl⟩ := hr
    have g0 : (st.heap.push (sO W)).get? st.heap.objs.size = some (sO W) := Heap.get?_push_size _ rfl
    have g1 : Shared.TypeIs { st with heap := st.heap.push (sO W) } (.ref st.heap.objs.size) "set" := ⟨_, g0, rfl⟩
    have m7 := F.called_set.init.lookup; have m8 := F.called_set.init.bind (.ref st.heap.objs.size)
    repeat (any_goals (first | assumption | wp_step)); skip
    refine codeAny_mono (codeAny_call_builtin (R := wants (fun r t2 => r = .none ∧ ∃ g tk n, t2 = { st with heap := g, toks := tk } ∧ SetR W g st.heap.objs.size (fun j => decide (j ∈ ks)) n ∧ n ≤ ks.length ∧ (∀ b o, st.heap.get? b = some o → g.get? b = some o)) Ex) F.called_set.init.plain F.entry_set_init (check_set_init_1 g1 ?_)) fun r2 t2 hr2 => ?_
    · obtain ⟨⟨o1, o2, o3, o4⟩, gl, c1, nl, c2⟩ := hl
      simp only at c1 c2; subst c1; subst c2
      have gl2 : (st.heap.push (sO W)).get? l = some { cls := .type "list", dict := o2, data := .seq its nl, slots := o4 } := Heap.get?_push_of_some _ gl
      have n1 := F.sub_list_set; have n2 := F.sub_list_frozenset
      have n3 : (Value.type "list" == Value.type "dict") = false := by decide
      have n4 : (st.heap.push (sO W)).IsList l its := ⟨_, gl2, rfl, nl, rfl⟩
      unfold Builtin.«set.__init__» noKeywords Builtin.Frozenset.updateFrom; generalize hPI : pyIter = PI
      wp_walk
      subst hPI
      refine wpAny_pyIter_list n4 (wpAny_bind (wpAny_runValue ?_))
      have lt : l < st.heap.objs.size := Heap.lt_size gl
      have h3 : Ar.in1.in1.in1.handled = none := by simp [hh]
      have ne : l ≠ (st.heap.push (sO W)).objs.size := by rw [Heap.size_push]; exact Nat.ne_of_lt (Nat.lt_succ_of_lt lt)
      have nm : st.heap.objs.size ∉ [(st.heap.push (sO W)).objs.size, l] := by
        rw [Heap.size_push]
        intro z
        rcases List.mem_cons.mp z with z | z
        · exact Nat.ne_of_lt (Nat.lt_succ_self _) z
        · exact Nat.ne_of_gt lt (List.mem_singleton.mp z)
      refine set_update_ints ((Walks.list h3 _ l ne its).toS) st.heap.objs.size nm ks zs hb (fun i v hv => ?_) (its.size - 0) 0 _ (by omega) (Nat.zero_le _) ⟨⟨_, Heap.get?_push_size _ rfl, rfl, rfl⟩, (n4.push _)⟩ ?zz0 ?zz1
      · have hi : i < ks.length := by rw [← zs]; exact (Array.getElem?_eq_some_iff.mp hv).1
        obtain ⟨t, e⟩ := PyProof.Rows.IntsAre.int_at hit i v (by rw [Array.getElem?_toList]; exact hv)
        exact ⟨ks[i], t, List.getElem?_eq_getElem hi, by rw [e, List.getD_eq_getElem?_getD, List.getElem?_eq_getElem hi]; rfl⟩
      case zz0 =>
        exact ⟨0, Nat.le_refl 0, setR_new_at (Heap.get?_push_of_some _ g0)⟩
      case zz1 =>
        intro t n' hm hn' hS
        obtain ⟨g, a1, a2, tk, a3⟩ := t
        cases (show a1 = st.gens from hm.gens); cases (show a2 = st.drawn from hm.drawn); cases (show a3 = st.os from hm.os)
        refine wpAny_pure (show wpAny _ _ (ret Value.none) _ _ _ from wpAny_pure ⟨rfl, g, tk, n', rfl, hS, by rw [zs] at hn'; exact hn', fun b o e => ?_⟩)
        have b0 : b < st.heap.objs.size := Heap.lt_size e
        refine hm.heap b o (fun z => ?_) (Heap.get?_push_of_some _ (Heap.get?_push_of_some _ e))
        rw [Heap.size_push] at z
        rcases List.mem_cons.mp z with z | z
        · exact Nat.ne_of_lt b0 z
        · exact Nat.ne_of_lt (Nat.lt_succ_of_lt b0) (List.mem_singleton.mp z)
    · rcases r2 with e | f2; · exact hr2
      cases f2 <;> first | exact hr2.elim | skip
      obtain ⟨rfl, g, tk, n, rfl, a1, a2, a3⟩ := hr2
      repeat (any_goals (first | assumption | wp_step)); skip
      exact q _ _ _ a1 a2 a3)⟩
end
end MP
end

section
set_option Elab.async false
set_option linter.all false
set_option maxRecDepth 100000
set_option maxHeartbeats 4000000
set_option autoImplicit false
namespace MP
open PySem L2 PySem.Spec PyProof.Rows
/-! ### plain facts -/
theorem mem_dedupI {α : Type} [DecidableEq α] {x : α} : ∀ {l : List α}, x ∈ dedupI l ↔ x ∈ l
  | [] => Iff.rfl
  | y :: l => by
    unfold dedupI
    by_cases h : y ∈ l
    · rw [if_pos h, mem_dedupI, List.mem_cons]
      exact ⟨.inr, fun z => by
        rcases z with rfl | z
        · exact h
        · exact z⟩
    · rw [if_neg h, List.mem_cons, List.mem_cons, mem_dedupI]
theorem nodup_dedupI {α : Type} [DecidableEq α] : ∀ l : List α, (dedupI l).Nodup
  | [] => List.nodup_nil
  | y :: l => by
    unfold dedupI
    by_cases h : y ∈ l
    · rw [if_pos h]; exact nodup_dedupI l
    · rw [if_neg h, List.nodup_cons]; exact ⟨fun z => h (mem_dedupI.mp z), nodup_dedupI l⟩
theorem nodup_len {α : Type} [DecidableEq α] : ∀ {l m : List α}, l.Nodup → (∀ x ∈ l, x ∈ m) → l.length ≤ m.length
  | [], _, _, _ => Nat.zero_le _
  | x :: l, m, nd, h => by
    rw [List.nodup_cons] at nd
    have hx := h x (List.mem_cons_self ..)
    have := nodup_len (l := l) (m := m.erase x) nd.2 fun y hy => (List.mem_erase_of_ne (fun (e : y = x) => nd.1 (by rw [← e]; exact hy))).mpr (h y (List.mem_cons_of_mem _ hy))
    rw [List.length_erase_of_mem hx] at this
    have hp : 0 < m.length := List.length_pos_of_mem hx
    rw [List.length_cons]
    omega
theorem same_len {α : Type} [DecidableEq α] {l m : List α} (h1 : l.Nodup) (h2 : m.Nodup) (h : ∀ x, x ∈ l ↔ x ∈ m) : l.length = m.length := Nat.le_antisymm (nodup_len h1 fun x hx => (h x).mp hx) (nodup_len h2 fun x hx => (h x).mpr hx)
theorem mem_insI {x y : Int} : ∀ {l : List Int}, y ∈ insI x l ↔ y = x ∨ y ∈ l
  | [] => by simp [insI]
  | z :: l => by
    unfold insI
    by_cases h : z < x
    · rw [if_pos h, List.mem_cons, List.mem_cons, mem_insI]
      constructor <;> (intro q; rcases q with q | q | q <;> simp [q])
    · rw [if_neg h, List.mem_cons]
theorem mem_sortI {y : Int} : ∀ {l : List Int}, y ∈ sortI l ↔ y ∈ l
  | [] => Iff.rfl
  | x :: l => by
    show y ∈ insI x (sortI l) ↔ _
    rw [mem_insI, mem_sortI, List.mem_cons]
theorem insI_pw {x : Int} : ∀ {l : List Int}, l.Pairwise (· < ·) → x ∉ l → (insI x l).Pairwise (· < ·)
  | [], _, _ => by simp [insI]
  | z :: l, h, n => by
    rw [List.pairwise_cons] at h
    rw [List.mem_cons, not_or] at n
    unfold insI
    by_cases q : z < x
    · rw [if_pos q, List.pairwise_cons]
      refine ⟨fun y hy => ?_, insI_pw h.2 n.2⟩
      rcases mem_insI.mp hy with rfl | hy
      · exact q
      · exact h.1 y hy
    · rw [if_neg q, List.pairwise_cons]
      refine ⟨fun y hy => ?_, List.pairwise_cons.mpr h⟩
      rcases List.mem_cons.mp hy with rfl | hy
      · omega
      · have := h.1 y hy; omega
theorem sortI_pw : ∀ {l : List Int}, l.Nodup → (sortI l).Pairwise (· < ·)
  | [], _ => .nil
  | x :: l, h => by
    rw [List.nodup_cons] at h
    exact insI_pw (sortI_pw h.2) fun z => h.1 (mem_sortI.mp z)
theorem pw_unique : ∀ {l m : List Int}, l.Pairwise (· < ·) → m.Pairwise (· < ·) → (∀ x, x ∈ l ↔ x ∈ m) → l = m
  | [], [], _, _, _ => rfl
  | [], y :: m, _, _, h => by have := (h y).mpr (List.mem_cons_self ..); cases this
  | x :: l, [], _, _, h => by have := (h x).mp (List.mem_cons_self ..); cases this
  | x :: l, y :: m, h1, h2, h => by
    rw [List.pairwise_cons] at h1 h2
    have e : x = y := by
      have a := (h x).mp (List.mem_cons_self ..)
      have b := (h y).mpr (List.mem_cons_self ..)
      rcases List.mem_cons.mp a with a | a
      · exact a
      · rcases List.mem_cons.mp b with b | b
        · exact b.symm
        · have q1 := h1.1 y b
          have q2 := h2.1 x a
          omega
    subst e
    rw [pw_unique h1.2 h2.2 fun z => ?_]
    have q := h z
    rw [List.mem_cons, List.mem_cons] at q
    constructor
    · intro hz
      rcases q.mp (.inr hz) with rfl | z2
      · exact absurd (h1.1 z hz) (Int.lt_irrefl _)
      · exact z2
    · intro hz
      rcases q.mpr (.inr hz) with rfl | z2
      · exact absurd (h2.1 z hz) (Int.lt_irrefl _)
      · exact z2
/-! ### calls -/
variable {c : Cfg}
section
variable {X : Cx}
theorem cr_setI (hc : X.calm = true) : CallR X (.type "set") (fun xs H Q => ∃ (l : Addr) (ns : List Int), xs = [.ref l] ∧ SqL X.K H l (ns.map V.int) ∧ ns.length < 64 ∧ ∀ a n, H a = none → n ≤ ns.length → Q (.ref a) (upd H a (SetO X.w a (fun j => decide (j ∈ ns)) n))) := by
  intro pins s σ H xs us Q I r h
  obtain ⟨l, ns, rfl, hl, hf, q⟩ := h
  rw [Vals.ref1 r]
  obtain ⟨its, rv, pl, hz⟩ := I.list hl
  have hn : H s.heap.objs.size = none := I.hok.fresh (Nat.le_refl _)
  refine set_ints ns (I.ok.hd hc) pl.isList (by simpa using rv.ints) (by unfold scanBound; omega) fun g tk n a1 a2 a3 => ?_
  exact ⟨.ref s.heap.objs.size, upd H s.heap.objs.size (SetO X.w s.heap.objs.size (fun j => decide (j ∈ ns)) n), I.laid (t' := tk) a3 (Nat.le_refl _) (setO_new a1), rfl, q _ n hn a2⟩
theorem cr_lenT : CallR X (.builtin "len") (fun xs H Q => ∃ (a : Addr) (L : List (Addr × List Int)), xs = [.ref a] ∧ H a = some (SetTO X.prog X.w a L) ∧ (∀ p ∈ L, SqT X.K H p.1 (p.2.map V.int)) ∧ ((L.map (·.2)).Nodup → Q (.int L.length) H)) := by
  intro pins s σ H xs us Q I r h
  obtain ⟨a, L, rfl, ha, ht, q⟩ := h
  rw [Vals.ref1 r]
  have R : SetT0 X.prog X.w s.heap a L := (I.hok a _ ha).1
  obtain ⟨es, ep, t, T⟩ := R.full fun p hp => I.isT (ht p hp)
  obtain ⟨o, h1, h2, h3⟩ := T.ob
  have hf := T.few
  have hz := T.size
  exact call_len_set h1 h2 h3 T.fits (by rw [hz]; omega) ⟨.int L.length, H, I.tok _, ⟨_, by rw [hz]⟩, q T.nd⟩
theorem vals_by : ∀ {xs : List V} {us : List Value}, xs.length = us.length → (∀ (i : Nat) x y, xs[i]? = some x → us[i]? = some y → RelV x y) → Vals xs us
  | [], [], _, _ => .nil
  | [], _ :: _, h, _ => by cases h
  | _ :: _, [], h, _ => by cases h
  | x :: xs, u :: us, h, q => .cons (q 0 x u rfl rfl) (vals_by (Nat.succ.inj h) fun i a b ha hb => q (i + 1) a b ha hb)
theorem CallR.or {f : Value} {r r' : List V → Hp → VK → Prop} (h : CallR X f r) (h' : CallR X f r') : CallR X f (fun xs H Q => r xs H Q ∨ r' xs H Q) := fun pins s σ H xs us Q I rx q => by
  rcases q with q | q
  · exact h pins s σ H xs us Q I rx q
  · exact h' pins s σ H xs us Q I rx q
theorem cr_range1 : CallR X (.type "range") (fun vs H Q => ∃ j, vs = [V.int j] ∧ ∀ p, H p = none → Q (.ref p) (upd H p (.rng 0 j))) := by
  intro pins s σ H vs us Q I r h
  obtain ⟨j, rfl, q⟩ := h
  obtain ⟨u, rfl, ru⟩ := vals1 r
  obtain ⟨t, rfl⟩ := ru
  refine call_range_1 ⟨.ref s.heap.objs.size, upd H s.heap.objs.size (.rng 0 j), I.laid (fun b o e => Heap.get?_push_of_some _ e) (Nat.le_refl _) ?_, rfl, q _ (I.hok.fresh (Nat.le_refl _))⟩
  exact ⟨s.toks, t, s.toks + 1, Heap.get?_push_size _ rfl⟩
def rngV (i : Int) (n : Nat) : List V := (List.range n).map fun (k : Nat) => V.int (i + (k : Int))
theorem rngV_rp {H : Hp} {w : Wl c} (i : Int) (n : Nat) : RpAll H w (rngV i n) (rangeL i n) := by
  have : ∀ (n : Nat) (i : Int) (k : Nat), RpAll H w ((List.range' k n).map fun (j : Nat) => V.int (i + (j : Int))) (rangeL (i + k) n) := by
    intro n
    induction n with
    | zero => intro i k; exact .nil
    | succ n ih =>
      intro i k
      rw [List.range'_succ, List.map_cons]
      refine .cons (.int _) ?_
      have := ih i (k + 1)
      rw [show (i + ((k + 1 : Nat) : Int)) = i + k + 1 from by omega] at this
      exact this
  have q := this n i 0
  unfold rngV
  rw [List.range_eq_range']
  simpa using q
theorem cr_listR (hc : X.calm = true) : CallR X (.type "list") (fun vs H Q => ∃ a lo hi, vs = [V.ref a] ∧ H a = some (.rng lo hi) ∧ -(2 ^ 62) ≤ lo ∧ lo < 2 ^ 62 ∧ -(2 ^ 62) ≤ hi ∧ hi < 2 ^ 62 ∧ (hi - lo).toNat ≤ big ∧ ∀ p, H p = none → Q (.ref p) (upd H p (.lst (rngV lo (hi - lo).toNat)))) := by
  intro pins s σ H vs us Q I r h
  obtain ⟨a, lo, hi, rfl, ha, b1, b2, b3, b4, hb, q⟩ := h
  rw [Vals.ref1 r]
  obtain ⟨t, u, v, e⟩ := I.hok a _ ha
  have hn : Builtin.Range.rangeSize lo hi 1 = ((hi - lo).toNat : Nat) := by
    rw [rangeSize_one]
    split <;> omega
  refine call_list_range (a := lo) (b := hi) (c := 1) (t := t) (u := u) (v := v) (n := (hi - lo).toNat) (I.ok.hd hc) e ?_ hn (by simpa [big] using hb) fun h' tk acc n' hk hS hacc => ?_
  · exact small_one b1 b2 b3 b4
  · refine ⟨.ref s.heap.objs.size, _, I.laid (a := s.heap.objs.size) (o := .lst (rngV lo (hi - lo).toNat)) (t' := tk) hk (Nat.le_refl _) ⟨?_, acc.toList, n', ?_, by simpa using hS⟩, rfl, q _ (I.hok.fresh (Nat.le_refl _))⟩
    · rw [← big_eq]; unfold rngV; simpa using hb
    · obtain ⟨z1, z2⟩ := hacc
      refine vals_by (by unfold rngV; simp [z1]) fun i x y hx hy => ?_
      unfold rngV at hx
      rw [List.getElem?_map] at hx
      cases e2 : (List.range (hi - lo).toNat)[i]? with
      | none => rw [e2] at hx; cases hx
      | some j =>
        rw [e2] at hx
        cases hx
        have ej : i = j := by
          have := List.getElem?_eq_some_iff.mp e2
          obtain ⟨_, z⟩ := this
          simpa using z
        subst ej
        obtain ⟨tk, z⟩ := z2 i y (by rw [← Array.getElem?_toList]; exact hy)
        exact ⟨tk, by rw [z, Int.mul_one]⟩
end
/-! ### the rule -/
theorem asIntT_all {H : Hp} {w : Wl c} {K : PySem.W.Frag} : ∀ {ds : List D} {vs : List V} {ks : List (List Int)}, mapO asIntT ds = some ks → RpAll H w vs ds → ∃ ps : List (Addr × List Int), vs = ps.map (fun p => V.ref p.1) ∧ ks = ps.map (·.2) ∧ ∀ p ∈ ps, H p.1 = some (.tup (p.2.map V.int))
  | [], _, _, h, r => by cases h; cases r; exact ⟨[], rfl, rfl, fun p hp => by cases hp⟩
  | d :: ds, _, _, h, r => by
    unfold mapO at h
    split at h
    · rename_i y hy
      split at h
      · rename_i zs hz
        cases h
        cases r with
        | cons r1 r2 =>
          obtain ⟨ps, e1, e2, e3⟩ := asIntT_all (K := K) hz r2
          cases d <;> simp only [asIntT, reduceCtorEq] at hy
          obtain ⟨a, us, rfl, h1, h2⟩ := r1.tup_inv
          have e := ints_rp hy h2
          subst e
          refine ⟨(a, y) :: ps, by rw [e1]; rfl, by rw [e2]; rfl, fun p hp => ?_⟩
          rcases List.mem_cons.mp hp with rfl | hp
          · exact h1
          · exact e3 p hp
      · cases h
    · cases h
variable {nm : Nm} {G : Nat → Option D} {C : Call} {k : Nat}
theorem nest_pe {p : Prim} {o i : Str} (hN : nestN p = some (o, i)) {X : Cx} {cx : SC} {W : WX} (ox : XO nm c G C k X cx W) {fi : Bool} (hf : (!fi || nestL p) = true) (g1 : glB cx.sc o = true) (g2 : glB cx.sc i = true) {z : Expr} {zs : List Expr} {p1 p2 q1 q2 : Pos} {f : Env → Store → Res (List D)} (pa : PA X (z :: zs) (rdA c W f)) (hfi : ∀ x ∈ z :: zs, fine x = true) :
    PE X (.Call (.Name o p1) [.Call (.Name i p2) (z :: zs) [] q1] [] q2) (rdG fi c W fun r S => (f r S).bind fun xs S1 => primD S1 p xs) := by
  have st1 := fine_star (env := X.env) (xs := zs) (hfi z (List.mem_cons_self ..))
  have bk := back_any (pos := q1) (env := X.env) (xs := zs) fun x hx => hfi x (List.mem_cons_of_mem _ hx)
  cases p <;> simp only [nestN, Option.some.injEq, Prod.mk.injEq, reduceCtorEq] at hN <;> obtain ⟨rfl, rfl⟩ := hN
  · -- len(set(..))
    have e : fi = false := by simpa [nestL] using hf
    subst e
    refine PE.imp (pe_callB cr_lenT (gl_of ox.sc g1) (ox.tb.bl _ (by decide)) (by decide +kernel) (pa_cons (pe_callTy (cr_setOfT ox.calm ox.room.units) (gl_of ox.sc g2) (ox.tb.bl _ (by decide)) (by decide +kernel) pa (by decide) (by decide) st1 bk) pa_nil)) fun σ H Q ⟨w, r, kk, er, out⟩ => ?_
    refine ⟨w, r, kk, er, OutA.bind out fun ds H1 w1 vs x1 k1 r1 o1 => ?_⟩
    simp only [primD] at o1
    split at o1 <;> try (first | contradiction | exact o1.elim)
    split at o1
    · rename_i ks hk
      obtain ⟨hb, o1⟩ := o1.okI
      simp only [Option.bind_eq_some_iff] at hk
      obtain ⟨ys, hy, hk⟩ := hk
      obtain ⟨v, rfl, rv⟩ := r1.one
      obtain ⟨l, us, rfl, h1, h2⟩ := viewL_rp k1 hy rv
      obtain ⟨ps, e1, e2, e3⟩ := asIntT_all (K := X.K) hk h2
      subst e1 e2
      have hb := of_decide_eq_true hb
      rw [List.length_map] at hb
      refine ⟨l, ps, rfl, SqL.of h1, fun p hp => SqT.of (e3 p hp), hb, fun a L ha s1 s2 => ?_⟩
      have nl : ∀ p ∈ L, p.1 ≠ a := fun p hp e => by
        have := e3 p (s1 p hp)
        rw [e, ha] at this
        cases this
      refine ⟨a, L, rfl, upd_same, fun p hp => SqT.of (by rw [upd_ne (nl p hp)]; exact e3 p (s1 p hp)), fun nd => ?_⟩
      have el : L.length = (dedupI (ps.map (·.2))).length := by
        rw [← List.length_map (f := (·.2)) (as := L)]
        refine same_len nd (nodup_dedupI _) fun x => ?_
        rw [mem_dedupI]
        constructor
        · intro hx
          obtain ⟨q, hq, rfl⟩ := List.mem_map.mp hx
          exact List.mem_map.mpr ⟨q, s1 q hq, rfl⟩
        · intro hx
          obtain ⟨q, hq, rfl⟩ := List.mem_map.mp hx
          exact s2 q hq
      rw [el]
      exact o1 _ w1 _ (ext_new ha) rfl (k1.new ha) (.int _)
    · exact o1.elim
  · -- sorted(set(..))
    refine PE.imp (pe_callB (cr_sortedSet ox.calm) (gl_of ox.sc g1) (ox.tb.bl _ (by decide)) (by decide +kernel) (pa_cons (pe_callTy (cr_setI ox.calm) (gl_of ox.sc g2) (ox.tb.bl _ (by decide)) (by decide +kernel) pa (by decide) (by decide) st1 bk) pa_nil)) fun σ H Q ⟨w, r, kk, er, out⟩ => ?_
    refine ⟨w, r, kk, er, OutA.bind out fun ds H1 w1 vs x1 k1 r1 o1 => ?_⟩
    simp only [primD] at o1
    split at o1 <;> try (first | contradiction | exact o1.elim)
    split at o1
    · rename_i ns hk
      obtain ⟨hb, o1⟩ := o1.okI
      simp only [Option.bind_eq_some_iff] at hk
      obtain ⟨ys, hy, hk⟩ := hk
      obtain ⟨v, rfl, rv⟩ := r1.one
      obtain ⟨l, us, rfl, h1, h2⟩ := viewL_rp k1 hy rv
      have e := ints_rp hk h2
      subst e
      have hb := of_decide_eq_true hb
      refine ⟨l, ns, rfl, SqL.of h1, hb, fun a n ha hn => ?_⟩
      refine ⟨a, _, n, rfl, upd_same, by omega, fun ms p hs hm hl hp => ?_⟩
      have em : ms = sortI (dedupI ns) := pw_unique hs (sortI_pw (nodup_dedupI _)) fun x => by
        rw [hm x, mem_sortI, mem_dedupI]
        simp
      subst em
      have o2 := Out.trans o1 (ext_new (w := w1) (o := SetO X.w a (fun j => decide (j ∈ ns)) n) ha)
      have k2 := k1.new (o := SetO X.w a (fun j => decide (j ∈ ns)) n) ha
      have rr : ∀ l : List Int, RpAll (upd H1 a (SetO X.w a (fun j => decide (j ∈ ns)) n)) w1 (l.map V.int) (l.map .int) := fun l => by
        induction l with
        | nil => exact .nil
        | cons x l ih => exact .cons (.int x) ih
      exact o2.newL k2 (rr _) hp
    · exact o1.elim
  · -- list(range(..))
    refine PE.imp (pe_callTy (cr_listR ox.calm) (gl_of ox.sc g1) (ox.tb.bl _ (by decide)) (by decide +kernel) (pa_cons (pe_callTy (CallR.or cr_range1 cr_range2) (gl_of ox.sc g2) (ox.tb.bl _ (by decide)) (by decide +kernel) pa (by decide) (by decide) st1 bk) pa_nil)) fun σ H Q ⟨w, r, kk, er, out⟩ => ?_
    refine ⟨w, r, kk, er, OutA.bind out fun ds H1 w1 vs x1 k1 r1 o1 => ?_⟩
    simp only [primD] at o1
    have fin : ∀ (i j : Int), inR i = true → inR j = true → (j - i).toNat ≤ big → Out fi c W σ H1 w1 Q (.ok (.list (rangeL i (j - i).toNat)) w1.S) → ∀ a, H1 a = none → ∃ a' lo hi, [V.ref a] = [V.ref a'] ∧ (upd H1 a (.rng i j)) a' = some (.rng lo hi) ∧ -(2 ^ 62) ≤ lo ∧ lo < 2 ^ 62 ∧ -(2 ^ 62) ≤ hi ∧ hi < 2 ^ 62 ∧ (hi - lo).toNat ≤ big ∧ ∀ p, (upd H1 a (.rng i j)) p = none → Q (.ref p) (upd (upd H1 a (.rng i j)) p (.lst (rngV lo (hi - lo).toNat))) := by
      intro i j hi hj hb o1 a ha
      simp only [inR, Bool.and_eq_true, decide_eq_true_eq] at hi hj
      refine ⟨a, i, j, rfl, upd_same, hi.1, hi.2, hj.1, hj.2, hb, fun p hp => ?_⟩
      have o2 := Out.trans o1 (ext_new (w := w1) (o := .rng i j) ha)
      exact o2.newL (k1.new (o := .rng i j) ha) (rngV_rp _ _) hp
    split at o1 <;> try (first | contradiction | exact o1.elim)
    · obtain ⟨hb, o1⟩ := o1.okI
      obtain ⟨v, rfl, rv⟩ := r1.one
      rw [rv.int_inv]
      simp only [Bool.and_eq_true, decide_eq_true_eq] at hb
      exact .inl ⟨_, rfl, fun a ha => fin 0 _ (by decide) hb.1 (by rw [Int.sub_zero]; exact hb.2) (by rw [Int.sub_zero]; exact o1) a ha⟩
    · obtain ⟨hb, o1⟩ := o1.okI
      obtain ⟨v, u, rfl, rv, ru⟩ := r1.two
      rw [rv.int_inv, ru.int_inv]
      simp only [Bool.and_eq_true, decide_eq_true_eq] at hb
      exact .inr ⟨_, _, rfl, fun a ha => fin _ _ hb.1.1 hb.1.2 hb.2 o1 a ha⟩
end MP
end

section
set_option Elab.async false
set_option linter.all false
set_option maxRecDepth 100000
set_option maxHeartbeats 4000000
set_option autoImplicit false
namespace MP
open PySem L2 PySem.Spec PyProof.Rows
variable {nm : Nm} {c : Cfg} {G : Nat → Option D} {C : Call} {k : Nat}
theorem maxL_spec : ∀ (ns : List Int) (n : Int), maxL n ns ∈ n :: ns ∧ ∀ x ∈ n :: ns, x ≤ maxL n ns
  | [], n => ⟨List.mem_cons_self .., fun x hx => by simp at hx; subst hx; exact Int.le_refl _⟩
  | y :: ys, n => by
    obtain ⟨h1, h2⟩ := maxL_spec ys (if n < y then y else n)
    show maxL (if n < y then y else n) ys ∈ _ ∧ ∀ x ∈ _, x ≤ maxL (if n < y then y else n) ys
    have h3 := h2 _ (List.mem_cons_self ..)
    refine ⟨?_, fun x hx => ?_⟩
    · rcases List.mem_cons.mp h1 with e | e
      · rw [e]
        by_cases q : n < y
        · rw [if_pos q]; exact List.mem_cons_of_mem _ (List.mem_cons_self ..)
        · rw [if_neg q]; exact List.mem_cons_self ..
      · exact List.mem_cons_of_mem _ (List.mem_cons_of_mem _ e)
    · rcases List.mem_cons.mp hx with rfl | hx
      · by_cases q : x < y
        · rw [if_pos q] at h3 ⊢; omega
        · rw [if_neg q] at h3 ⊢; omega
      · rcases List.mem_cons.mp hx with rfl | hx
        · by_cases q : n < x
          · rw [if_pos q] at h3 ⊢; omega
          · rw [if_neg q] at h3 ⊢; omega
        · exact h2 x (List.mem_cons_of_mem _ hx)
theorem minL_spec : ∀ (ns : List Int) (n : Int), minL n ns ∈ n :: ns ∧ ∀ x ∈ n :: ns, minL n ns ≤ x
  | [], n => ⟨List.mem_cons_self .., fun x hx => by simp at hx; subst hx; exact Int.le_refl _⟩
  | y :: ys, n => by
    obtain ⟨h1, h2⟩ := minL_spec ys (if y < n then y else n)
    show minL (if y < n then y else n) ys ∈ _ ∧ ∀ x ∈ _, minL (if y < n then y else n) ys ≤ x
    have h3 := h2 _ (List.mem_cons_self ..)
    refine ⟨?_, fun x hx => ?_⟩
    · rcases List.mem_cons.mp h1 with e | e
      · rw [e]
        by_cases q : y < n
        · rw [if_pos q]; exact List.mem_cons_of_mem _ (List.mem_cons_self ..)
        · rw [if_neg q]; exact List.mem_cons_self ..
      · exact List.mem_cons_of_mem _ (List.mem_cons_of_mem _ e)
    · rcases List.mem_cons.mp hx with rfl | hx
      · by_cases q : y < x
        · rw [if_pos q] at h3 ⊢; omega
        · rw [if_neg q] at h3 ⊢; omega
      · rcases List.mem_cons.mp hx with rfl | hx
        · by_cases q : x < n
          · rw [if_pos q] at h3 ⊢; omega
          · rw [if_neg q] at h3 ⊢; omega
        · exact h2 x (List.mem_cons_of_mem _ hx)
section
variable {X : Cx} {fi : Bool} {W : WX} {σ : L2.St}
theorem cl_max (hc : X.calm = true) : CallR X (.builtin "max") (rCl fi c W σ fun S as => primD S .max as) := by
  intro pins s σ' H vs us Q I rv h
  obtain ⟨w, ds, kk, r, o⟩ := h
  simp only [primD] at o
  split at o
  all_goals try contradiction
  all_goals try (exact o.elim)
  · split at o
    · rename_i n ns hn
      simp only [Option.bind_eq_some_iff] at hn
      obtain ⟨ys, hy, hn⟩ := hn
      obtain ⟨v, rfl, r1⟩ := r.one
      obtain ⟨a, zs, rfl, h1, h2⟩ := viewL_rp kk hy r1
      have e := ints_rp hn h2
      subst e
      refine cr_max hc pins s σ' H _ us Q I rv ⟨a, n :: ns, rfl, SqL.of h1, by simp, fun m hm hle => ?_⟩
      obtain ⟨g1, g2⟩ := maxL_spec ns n
      have : m = maxL n ns := Int.le_antisymm (g2 m hm) (hle _ g1)
      rw [this]
      exact o.val kk (.int _)
    · exact o.elim
  · obtain ⟨v, u, rfl, r1, r2⟩ := r.two
    cases r1; cases r2
    exact call_max2 hc pins s σ' H _ us Q I rv ⟨_, _, rfl, o.val kk (.int _)⟩
theorem cl_min (hc : X.calm = true) : CallR X (.builtin "min") (rCl fi c W σ fun S as => primD S .min as) := by
  intro pins s σ' H vs us Q I rv h
  obtain ⟨w, ds, kk, r, o⟩ := h
  simp only [primD] at o
  split at o
  all_goals try contradiction
  all_goals try (exact o.elim)
  · split at o
    · rename_i n ns hn
      simp only [Option.bind_eq_some_iff] at hn
      obtain ⟨ys, hy, hn⟩ := hn
      obtain ⟨v, rfl, r1⟩ := r.one
      obtain ⟨a, zs, rfl, h1, h2⟩ := viewL_rp kk hy r1
      have e := ints_rp hn h2
      subst e
      refine cr_min hc pins s σ' H _ us Q I rv ⟨a, n :: ns, rfl, SqL.of h1, by simp, fun m hm hle => ?_⟩
      obtain ⟨g1, g2⟩ := minL_spec ns n
      have : m = minL n ns := Int.le_antisymm (hle _ g1) (g2 m hm)
      rw [this]
      exact o.val kk (.int _)
    · exact o.elim
  · obtain ⟨v, u, rfl, r1, r2⟩ := r.two
    cases r1; cases r2
    exact call_min2 hc pins s σ' H _ us Q I rv ⟨_, _, rfl, o.val kk (.int _)⟩
  · obtain ⟨v, u, z, rfl, r1, r2, r3⟩ := r.three
    cases r1; cases r2; cases r3
    cases rv with
    | cons a1 rv => cases rv with
      | cons a2 rv => cases rv with
        | cons a3 rv =>
          cases rv
          obtain ⟨t1, rfl⟩ := a1
          obtain ⟨t2, rfl⟩ := a2
          obtain ⟨t3, rfl⟩ := a3
          refine min_three_ints (I.ok.hd hc) fun h' tk hk => ?_
          have q := o.val kk (.int _)
          simp only [minL] at q
          split
          · rename_i h1
            rw [if_pos h1] at q
            split
            · rename_i h2
              rw [if_pos h2] at q
              exact ⟨.int _, H, I.kept hk, ⟨_, rfl⟩, q⟩
            · rename_i h2
              rw [if_neg h2] at q
              exact ⟨.int _, H, I.kept hk, ⟨_, rfl⟩, q⟩
          · rename_i h1
            rw [if_neg h1] at q
            split
            · rename_i h2
              rw [if_pos h2] at q
              exact ⟨.int _, H, I.kept hk, ⟨_, rfl⟩, q⟩
            · rename_i h2
              rw [if_neg h2] at q
              exact ⟨.int _, H, I.kept hk, ⟨_, rfl⟩, q⟩
theorem cl_str : CallR X (.type "str") (rCl fi c W σ fun S as => primD S .str as) := by
  refine CallR.imp call_str_int ?_
  rintro xs H Q ⟨w, ds, kk, r, o⟩
  simp only [primD] at o
  split at o
  all_goals try contradiction
  all_goals try (exact o.elim)
  obtain ⟨hb, o⟩ := o.okI
  obtain ⟨v, rfl, r1⟩ := r.one
  cases r1
  exact ⟨_, rfl, of_decide_eq_true hb, o.val kk (.str _)⟩
theorem cl_int : CallR X (.type "int") (rCl fi c W σ fun S as => primD S .int as) := by
  refine CallR.imp call_int_str ?_
  rintro xs H Q ⟨w, ds, kk, r, o⟩
  simp only [primD] at o
  split at o
  all_goals try contradiction
  all_goals try (exact o.elim)
  split at o
  · rename_i n hn
    obtain ⟨hb, o⟩ := o.okI
    obtain ⟨v, rfl, r1⟩ := r.one
    cases r1
    exact ⟨_, _, rfl, hn, of_decide_eq_true hb, o.val kk (.int _)⟩
  · exact o.elim
theorem prim_b (hc : X.calm = true) (hu : X.A.units + 64 < cLine) {p : Prim} {y : Str} (h : bltn p = some y) : ∃ id, bootBuiltins y = some (.builtin id) ∧ y ≠ "__name__" ∧ (y == ("__debug__" : Str)) = false ∧ y ∈ bltns ∧ CallR X (.builtin id) (rCl fi c W σ fun S as => primD S p as) := by
  cases p <;> simp only [bltn, Option.some.injEq, reduceCtorEq] at h <;> subst h
  · exact ⟨"len", by decide +kernel, by decide, by decide, by decide, cl_len⟩
  · exact ⟨"sum", by decide +kernel, by decide, by decide, by decide, cl_sum hc⟩
  · exact ⟨"all", by decide +kernel, by decide, by decide, by decide, cl_all hc⟩
  · exact ⟨"any", by decide +kernel, by decide, by decide, by decide, cl_any hc⟩
  · exact ⟨"min", by decide +kernel, by decide, by decide, by decide, cl_min hc⟩
  · exact ⟨"max", by decide +kernel, by decide, by decide, by decide, cl_max hc⟩
  · exact ⟨"sorted", by decide +kernel, by decide, by decide, by decide, cl_sorted hu⟩
theorem prim_t {p : Prim} {y : Str} (h : bltnT p = some y) : ∃ id, bootBuiltins y = some (.type id) ∧ y ≠ "__name__" ∧ (y == ("__debug__" : Str)) = false ∧ y ∈ bltns ∧ CallR X (.type id) (rCl fi c W σ fun S as => primD S p as) := by
  cases p <;> simp only [bltnT, Option.some.injEq, reduceCtorEq] at h <;> subst h
  · exact ⟨"list", by decide +kernel, by decide, by decide, by decide, cl_list⟩
  · exact ⟨"tuple", by decide +kernel, by decide, by decide, by decide, cl_tuple⟩
  · exact ⟨"str", by decide +kernel, by decide, by decide, by decide, cl_str⟩
  · exact ⟨"int", by decide +kernel, by decide, by decide, by decide, cl_int⟩
end
theorem isi_names {p : Prim} {T : Str} (h : isiN p = some T) : ∃ (Ts : String) (f : PyData → Bool), isiT p = some (Ts, f) ∧ T = Str.ofString Ts ∧ bootBuiltins (Str.ofString Ts) = some (.type Ts) ∧ ((Str.ofString Ts) ≠ "__name__" ∧ ((Str.ofString Ts) == ("__debug__" : Str)) = false) ∧ (Str.ofString Ts) ∈ bltns := by
  cases p <;> simp only [isiN, Option.some.injEq, reduceCtorEq] at h <;> subst h
  · exact ⟨"int", _, rfl, rfl, by decide +kernel, ⟨by decide, by decide⟩, by decide⟩
  · exact ⟨"bool", _, rfl, rfl, by decide +kernel, ⟨by decide, by decide⟩, by decide⟩
  · exact ⟨"list", _, rfl, rfl, by decide +kernel, ⟨by decide, by decide⟩, by decide⟩
  · exact ⟨"tuple", _, rfl, rfl, by decide +kernel, ⟨by decide, by decide⟩, by decide⟩
  · exact ⟨"str", _, rfl, rfl, by decide +kernel, ⟨by decide, by decide⟩, by decide⟩
theorem snd_prim (p : Prim) {es : Es} (hs : SndEs nm c G C k es) : SndE nm c G C k (.prim p es) := by
  refine .of (fun X cx W fi x ox h => ?_) fun cx x h => ?_
  · cases x <;> first | exact Bool.noConfusion (show false = true from h) | skip
    rename_i fe xs kws pos
    cases fe <;> first | exact Bool.noConfusion (show false = true from h) | skip
    rename_i y py
    cases kws with
    | cons _ _ => exact Bool.noConfusion (show false = true from h)
    | nil =>
      simp only [okE] at h
      split at h
      · rename_i y' hy
        simp only [Bool.and_eq_true, decide_eq_true_eq] at h
        obtain ⟨⟨⟨rfl, hg⟩, hn⟩, ha⟩ := h
        have hfi := okEs_fine (env := X.env) ha
        cases xs with
        | nil => simp at hn
        | cons z zs =>
          refine ⟨fun pins s σ H Q I hh => ?_⟩
          obtain ⟨id, hb, n1, n2, hm, cr⟩ := prim_b (X := X) (c := c) (fi := fi) (W := W) (σ := σ) ox.calm ox.room.units hy
          refine (pe_callB cr (gl_of ox.sc hg) (ox.tb.bl y hm) hb (hs.pa X cx W (z :: zs) ox ha) n1 n2 (fine_star (hfi z (List.mem_cons_self ..))) (back_any fun x hx => hfi x (List.mem_cons_of_mem _ hx))).run pins s σ H Q I ?_
          obtain ⟨w, r, kk, er, out⟩ := hh
          exact ⟨w, r, kk, er, OutA.bind out fun ds H1 w1 vs x1 k1 r1 o1 => ⟨w1, ds, k1, r1, o1⟩⟩
      · rename_i y' hy
        simp only [Bool.and_eq_true, decide_eq_true_eq] at h
        obtain ⟨⟨⟨rfl, hg⟩, hn⟩, ha⟩ := h
        have hfi := okEs_fine (env := X.env) ha
        cases xs with
        | nil => simp at hn
        | cons z zs =>
          refine ⟨fun pins s σ H Q I hh => ?_⟩
          obtain ⟨id, hb, n1, n2, hm, cr⟩ := prim_t (X := X) (c := c) (fi := fi) (W := W) (σ := σ) hy
          refine (pe_callTy cr (gl_of ox.sc hg) (ox.tb.bl y hm) hb (hs.pa X cx W (z :: zs) ox ha) n1 n2 (fine_star (hfi z (List.mem_cons_self ..))) (back_any fun x hx => hfi x (List.mem_cons_of_mem _ hx))).run pins s σ H Q I ?_
          obtain ⟨w, r, kk, er, out⟩ := hh
          exact ⟨w, r, kk, er, OutA.bind out fun ds H1 w1 vs x1 k1 r1 o1 => ⟨w1, ds, k1, r1, o1⟩⟩
      · rename_i T hT
        simp only [Bool.and_eq_true, decide_eq_true_eq] at h
        obtain ⟨⟨⟨⟨hf, rfl⟩, hg⟩, hgT⟩, h⟩ := h
        have := okE_fi hf
        subst this
        split at h
        · rename_i a' t pt
          simp only [Bool.and_eq_true, decide_eq_true_eq] at h
          obtain ⟨rfl, ha⟩ := h
          have hfi := okEs_fine (env := X.env) ha
          have f1 : fine a' = true := hfi a' (List.mem_cons_self ..)
          cases es with
          | nil => exact Bool.noConfusion (show false = true from ha)
          | cons e es =>
            cases es with
            | cons _ _ =>
              simp only [okEs, Bool.and_eq_true] at ha
              exact Bool.noConfusion (show false = true from ha.2)
            | nil =>
              simp only [okEs, Bool.and_eq_true] at ha
              have pe := (hs.hd e .nil rfl).pe X cx W false a' ox ha.1.2
              obtain ⟨Ts, f, hi, hb, n1, n2, hm⟩ := isi_names hT
              subst hb
              refine ⟨fun pins s σ H Q I hh => ?_⟩
              refine (pe_callB (cl_isi (X := X) (c := c) (fi := false) (W := W) (σ := σ) hi) (gl_of ox.sc hg) (ox.tb.bl _ (by decide)) (by decide +kernel) (pa_cons pe (pa_cons (pe_bltn (v := .ty Ts) (gl_of ox.sc hgT) (ox.tb.bl _ hm) n1 rfl n2.1 n2.2) pa_nil) (fine_star f1)) (by decide) (by decide) (fine_star f1) rfl).run pins s σ H Q I ?_
              obtain ⟨w, r, kk, er, out⟩ := hh
              refine ⟨w, r, kk, er, ?_⟩
              simp only [ev, evs] at out
              refine Out.bind (f := fun x S1 => primD S1 p [x]) (Q := Q) (fi := false) ?_ fun d H1 w1 v x1 k1 r1 o1 => ?_
              · cases hr : ev G C e r w.S with
                | bad => rw [hr] at out; exact out
                | exc n S' => rw [hr] at out; exact out
                | ok d S' => rw [hr] at out; exact out
              · exact ⟨v, rfl, w1, [d], k1, .cons r1 .nil, o1⟩
        · cases h
      · cases hN : nestN p with
        | none => rw [hN] at h; cases h
        | some oi =>
          obtain ⟨o, i⟩ := oi
          rw [hN] at h
          simp only [Bool.and_eq_true, decide_eq_true_eq] at h
          obtain ⟨⟨⟨⟨hf, rfl⟩, g1⟩, g2⟩, h⟩ := h
          split at h
          · rename_i y' py' es2 pos'
            simp only [Bool.and_eq_true, decide_eq_true_eq] at h
            obtain ⟨⟨rfl, hn⟩, ha⟩ := h
            cases es2 with
            | nil => simp at hn
            | cons z zs => exact nest_pe hN ox hf g1 g2 (hs.pa X cx W (z :: zs) ox ha) (okEs_fine (env := X.env) ha)
          · cases h
  · cases x <;> first | exact Bool.noConfusion (show false = true from h) | rfl
end MP
end

section
set_option Elab.async false
set_option linter.all false
set_option maxRecDepth 100000
set_option maxHeartbeats 4000000
set_option autoImplicit false
namespace MP
open PySem L2 PySem.Spec PyProof.Rows
variable {nm : Nm} {c : Cfg} {G : Nat → Option D} {C : Call} {k : Nat}
/-! ### targets -/
def Off (is : List Nat) (σ σ' : L2.St) : Prop := σ'.length = σ.length ∧ ∀ j, j ∉ is → σ'[j]? = σ[j]?
theorem Off.trans {is js : List Nat} {σ σ1 σ2 : L2.St} (a : Off is σ σ1) (b : Off js σ1 σ2) : Off (is ++ js) σ σ2 :=
  ⟨b.1.trans a.1, fun j h => (b.2 j fun z => h (List.mem_append_right _ z)).trans (a.2 j fun z => h (List.mem_append_left _ z))⟩
def rdTg (c : Cfg) (t : Tg) : TG := fun v σ H Q => ∃ w : Wl c, ∃ r d r', Wok H w ∧ ER H w r σ ∧ Rp H w v d ∧ bindTg t d r = some r' ∧ ∀ σ', ER H w r' σ' → Off (slots t) σ σ' → Q σ' H
def rdTgs (c : Cfg) (ts : Tgs) : TGs := fun vs σ H Q => ∃ w : Wl c, ∃ r ds r', Wok H w ∧ ER H w r σ ∧ RpAll H w vs ds ∧ bindTgs ts ds r = some r' ∧ ∀ σ', ER H w r' σ' → Off (slotss ts) σ σ' → Q σ' H
theorem PG.imp {X : Cx} {e : Expr} {t t' : TG} (h : PG X e t) (kk : ∀ v σ H Q, t' v σ H Q → t v σ H Q) : PG X e t' := ⟨fun a b d e f g h' i j q => h.run a b d e f g h' i j (kk _ _ _ _ q)⟩
theorem PGs.imp {X : Cx} {e : List Expr} {t t' : TGs} (h : PGs X e t) (kk : ∀ v σ H Q, t' v σ H Q → t v σ H Q) : PGs X e t' := ⟨fun a b d e f g h' i j q => h.run a b d e f g h' i j (kk _ _ _ _ q)⟩
theorem okT_each {cx : SC} {t : Tg} {x : Expr} {xs : List Expr} {env : PySem.Env} (h : okT cx t x = true) : assignEach (x :: xs) env = (false, assign x env) :: assignEach xs env := by
  cases x <;> first | rfl | (cases t <;> exact Bool.noConfusion (show false = true from h))
theorem okTs_each {cx : SC} {env : PySem.Env} : ∀ {ts : Tgs} {xs : List Expr}, okTs cx ts xs = true → (assignEach xs env).length = xs.length ∧ (assignEach xs env).findIdx? (·.1) = none
  | .nil, [], _ => ⟨rfl, rfl⟩
  | .nil, _ :: _, h => Bool.noConfusion (show false = true from h)
  | .cons _ _, [], h => Bool.noConfusion (show false = true from h)
  | .cons t ts, x :: xs, h => by
    simp only [okTs, Bool.and_eq_true] at h
    rw [okT_each h.1]
    obtain ⟨h1, h2⟩ := okTs_each (env := env) h.2
    refine ⟨by rw [List.length_cons, List.length_cons, h1], ?_⟩
    rw [List.findIdx?_cons]
    simp [h2]
theorem bindTgs_len {cx : SC} : ∀ {ts : Tgs} {xs : List Expr} {ds : List D} {r r' : Env}, okTs cx ts xs = true → bindTgs ts ds r = some r' → ds.length = xs.length
  | .nil, [], [], _, _, _, _ => rfl
  | .nil, [], _ :: _, _, _, _, hb => by simp [bindTgs] at hb
  | .nil, _ :: _, _, _, _, h, _ => Bool.noConfusion (show false = true from h)
  | .cons _ _, [], _, _, _, h, _ => Bool.noConfusion (show false = true from h)
  | .cons t ts, x :: xs, [], _, _, _, hb => by simp [bindTgs] at hb
  | .cons t ts, x :: xs, d :: ds, r, r', h, hb => by
    simp only [okTs, Bool.and_eq_true] at h
    simp only [bindTgs] at hb
    split at hb
    · rw [List.length_cons, List.length_cons, bindTgs_len h.2 hb]
    · cases hb
mutual
theorem snd_tg {X : Cx} {cx : SC} {W : WX} (ox : XO nm c G C k X cx W) : ∀ (t : Tg) (x : Expr), okT cx t x = true → PG X x (rdTg c t)
  | .nm i, x, h => by
    cases x <;> first | exact Bool.noConfusion (show false = true from h) | skip
    rename_i y pos
    simp only [okT, Bool.and_eq_true, Bool.or_eq_true, decide_eq_true_eq] at h
    obtain ⟨⟨h1, h2⟩, h3⟩ := h
    refine PG.imp (pg_name (i := i) ox.nd (by rw [ox.N]; exact h1) (by rw [ox.sc]; exact loc_of h2) ?_) fun v σ H Q ⟨w, r, d, r', kk, er, rp, hb, q⟩ => ?_
    · rcases h3 with h3 | h3
      · exact .inl (by rw [ox.fn]; exact h3)
      · exact .inr (by rw [ox.sc]; exact isLoc_of h3)
    · simp only [bindTg, Option.some.injEq] at hb
      subst hb
      refine q _ (er.set rp i) ⟨List.length_set, fun j hj => ?_⟩
      rw [List.getElem?_set_ne]
      intro e
      subst e
      exact hj (List.mem_cons_self ..)
  | .tp ts, x, h => by
    cases x <;> first | exact Bool.noConfusion (show false = true from h) | skip
    rename_i es kk pos
    have h1 : okTs cx ts es = true := h
    obtain ⟨e1, e2⟩ := okTs_each (env := X.env) h1
    refine PG.imp (pg_tup ox.calm (snd_tgs ox ts es h1) e1 e2) fun v σ H Q ⟨w, r, d, r', kk, er, rp, hb, q⟩ => ?_
    cases d <;> simp only [bindTg, reduceCtorEq] at hb
    obtain ⟨a, xs, rfl, h2, h3⟩ := rp.tup_inv
    exact ⟨a, xs, rfl, SqT.of h2, h3.length.trans (bindTgs_len h1 hb), w, r, _, r', kk, er, h3, hb, q⟩
theorem snd_tgs {X : Cx} {cx : SC} {W : WX} (ox : XO nm c G C k X cx W) : ∀ (ts : Tgs) (xs : List Expr), okTs cx ts xs = true → PGs X xs (rdTgs c ts)
  | .nil, xs, h => by
    cases xs with
    | cons _ _ => exact Bool.noConfusion (show false = true from h)
    | nil =>
      refine PGs.imp pgs_nil fun vs σ H Q ⟨w, r, ds, r', kk, er, rp, hb, q⟩ => ?_
      cases ds with
      | nil =>
        cases rp
        cases hb
        exact ⟨rfl, q σ er ⟨rfl, fun _ _ => rfl⟩⟩
      | cons _ _ => simp [bindTgs] at hb
  | .cons t ts, xs, h => by
    cases xs with
    | nil => exact Bool.noConfusion (show false = true from h)
    | cons x xs =>
      simp only [okTs, Bool.and_eq_true] at h
      refine PGs.imp (pgs_cons (snd_tg ox t x h.1) (snd_tgs ox ts xs h.2) (by rw [okT_each h.1]; rfl)) fun vs σ H Q ⟨w, r, ds, r', kk, er, rp, hb, q⟩ => ?_
      · cases ds with
        | nil => simp [bindTgs] at hb
        | cons d ds =>
          cases rp with
          | cons r1 r2 =>
            simp only [bindTgs] at hb
            split at hb
            · rename_i r1' hb1
              refine ⟨_, _, rfl, w, r, d, r1', kk, er, r1, hb1, fun σ1 er1 of1 => ?_⟩
              exact ⟨w, r1', ds, r', kk, er1, r2, hb, fun σ2 er2 of2 => q σ2 er2 (of1.trans of2)⟩
            · cases hb
end

/-! ### what is walked -/
structure Iters (J : It) (H0 : Hp) (w0 : Wl c) (items : List D) : Prop where
  go : ∀ (H : Hp) (w : Wl c) (i : Nat) (d : D), Ext H0 w0 H w → Wok H w → items[i]? = some d → J.go i H ∧ ∀ x H', J.yld i H x H' → Ext H w H' w ∧ Wok H' w ∧ Rp H' w x d
  stop : ∀ (H : Hp) (w : Wl c) (i : Nat), Ext H0 w0 H w → Wok H w → items.length ≤ i → J.stop i H
def Wl.addZ (w : Wl c) (p : Addr) : Wl c := ⟨w.A, w.S, fun a => w.Z a ∨ a = p⟩
theorem mv_addZ {H : Hp} {w : Wl c} {p : Addr} {o : HO} (hp : H p = none) : Mv H w (upd H p o) (w.addZ p) := by
  refine ⟨fun _ _ h => h, fun a xs h n => ⟨by rw [upd_ne (ne_of_none h hp)]; exact h, ?_⟩, fun a xs h => by rw [upd_ne (ne_of_none h hp)]; exact h, fun a o u h => by rw [upd_ne (ne_of_none h hp)]; exact h⟩
  rintro (z | z | z)
  · exact n (.inl z)
  · exact n (.inr z)
  · exact ne_of_none h hp z
theorem wok_addZ {H : Hp} {w : Wl c} {p : Addr} {o : HO} (k : Wok H w) (hp : H p = none) : Wok (upd H p o) (w.addZ p) := by
  have m : Mv H w (upd H p o) (w.addZ p) := mv_addZ hp
  refine ⟨k.len, k.inj, fun n a q h1 h2 => (k.obj n a q h1 h2).ext m fun al => ?_, fun a l => ?_, fun a z => ?_⟩
  · obtain ⟨xs, e, _⟩ := (k.obj n a q h1 h2).alive al
    rw [upd_ne (ne_of_none e hp)]
  · rintro (z | z)
    · exact k.nz a l z
    · obtain ⟨xs, e, _⟩ := k.live l
      exact ne_of_none e hp z
  · rcases z with z | z
    · obtain ⟨u, e⟩ := k.tr a z
      exact ⟨u, by rw [upd_ne (ne_of_none e hp)]; exact e⟩
    · subst z
      exact ⟨o, upd_same⟩
def ItersZ (J : It) (H : Hp) (w : Wl c) (items : List D) : Prop := Iters J H w items ∧ ∀ p o, H p = none → Iters J (upd H p o) (w.addZ p) items
def OutJ (c : Cfg) (W : WX) (σ : L2.St) (H : Hp) (w : Wl c) (R : It → Hp → Prop) : Res D → Prop
  | .bad => False
  | .ok d S' => ∃ items, viewS S' d = some items ∧ ∀ H' w' J, Ext H w H' w' → w'.S = S' → Wok H' w' → ItersZ J H' ({ w' with S := lock S' d } : Wl c) items → R J H'
  | .exc x S' => ∀ H' w', Ext H w H' w' → w'.S = S' → Wok H' w' → W (c.cv x) none σ H'
def rdJ (c : Cfg) (W : WX) (f : Env → Store → Res D) : TI := fun σ H R => ∃ w : Wl c, ∃ r, Wok H w ∧ ER H w r σ ∧ OutJ c W σ H w R (f r w.S)
theorem PI.imp {X : Cx} {tg e : Expr} {t t' : TI} (h : PI X tg e t) (kk : ∀ σ H R, t' σ H R → t σ H R) : PI X tg e t' := ⟨fun pins s σ H R I q => h.run pins s σ H R I (kk σ H R q)⟩
theorem iters_lst {K : PySem.W.Frag} {H0 : Hp} {w0 : Wl c} {a : Addr} {xs : List V} {ds : List D} (h : H0 a = some (.lst xs)) (n : ¬ live w0.A w0.S a) (k0 : Wok H0 w0) (r : RpAll H0 w0 xs ds) : Iters (Itl K a) H0 w0 ds := by
  refine ⟨fun H w i d x kk hd => ?_, fun H w i x kk hi => ?_⟩
  · have hH := (x.keep a _ h n).1
    have r' := r.ext x k0
    obtain ⟨v, hv, rv⟩ := r'.get hd
    refine ⟨⟨xs, v, SqL.of hH, hv⟩, fun y H' hy => ?_⟩
    obtain ⟨rfl, hy⟩ := hy
    have := hy xs (SqL.of hH)
    rw [hv] at this
    cases this
    exact ⟨.refl, kk, rv⟩
  · exact ⟨xs, SqL.of (x.keep a _ h n).1, by rw [r.length]; exact hi⟩
theorem iters_tup {K : PySem.W.Frag} {H0 : Hp} {w0 : Wl c} {a : Addr} {xs : List V} {ds : List D} (h : H0 a = some (.tup xs)) (k0 : Wok H0 w0) (r : RpAll H0 w0 xs ds) : Iters (Itt K a) H0 w0 ds := by
  refine ⟨fun H w i d x kk hd => ?_, fun H w i x kk hi => ?_⟩
  · have hH := (x.mv k0).tup a _ h
    have r' := r.ext x k0
    obtain ⟨v, hv, rv⟩ := r'.get hd
    refine ⟨⟨xs, v, SqT.of hH, hv⟩, fun y H' hy => ?_⟩
    obtain ⟨rfl, hy⟩ := hy
    have := hy xs (SqT.of hH)
    rw [hv] at this
    cases this
    exact ⟨.refl, kk, rv⟩
  · exact ⟨xs, SqT.of ((x.mv k0).tup a _ h), by rw [r.length]; exact hi⟩
theorem iters_lck {K : PySem.W.Frag} {H0 : Hp} {w0 : Wl c} {n : Nat} {a : Addr} {ds : List D} (ha : w0.A[n]? = some a) (hs : w0.S[n]? = some (.lck ds)) : Iters (Itl K a) H0 w0 ds := by
  refine ⟨fun H w i d x kk hd => ?_, fun H w i x kk hi => ?_⟩
  · obtain ⟨xs, hH, r'⟩ := kk.obj n a _ (x.at ha) (x.lck n ds hs)
    obtain ⟨v, hv, rv⟩ := r'.get hd
    refine ⟨⟨xs, v, SqL.of hH, hv⟩, fun y H' hy => ?_⟩
    obtain ⟨rfl, hy⟩ := hy
    have := hy xs (SqL.of hH)
    rw [hv] at this
    cases this
    exact ⟨.refl, kk, rv⟩
  · obtain ⟨xs, hH, r'⟩ := kk.obj n a _ (x.at ha) (x.lck n ds hs)
    exact ⟨xs, SqL.of hH, by rw [r'.length]; exact hi⟩
theorem itersZ_lst {K : PySem.W.Frag} {H0 : Hp} {w0 : Wl c} {a : Addr} {xs : List V} {ds : List D} (h : H0 a = some (.lst xs)) (n : ¬ live w0.A w0.S a) (k0 : Wok H0 w0) (r : RpAll H0 w0 xs ds) : ItersZ (Itl K a) H0 w0 ds :=
  ⟨iters_lst h n k0 r, fun p o hp => iters_lst (w0 := w0.addZ p) (by rw [upd_ne (ne_of_none h hp)]; exact h) n (wok_addZ k0 hp) (r.mv (mv_addZ hp))⟩
theorem itersZ_tup {K : PySem.W.Frag} {H0 : Hp} {w0 : Wl c} {a : Addr} {xs : List V} {ds : List D} (h : H0 a = some (.tup xs)) (k0 : Wok H0 w0) (r : RpAll H0 w0 xs ds) : ItersZ (Itt K a) H0 w0 ds :=
  ⟨iters_tup h k0 r, fun p o hp => iters_tup (by rw [upd_ne (ne_of_none h hp)]; exact h) (wok_addZ k0 hp) (r.mv (mv_addZ hp))⟩
theorem itersZ_lck {K : PySem.W.Frag} {H0 : Hp} {w0 : Wl c} {n : Nat} {a : Addr} {ds : List D} (ha : w0.A[n]? = some a) (hs : w0.S[n]? = some (.lck ds)) : ItersZ (Itl K a) H0 w0 ds :=
  ⟨iters_lck ha hs, fun p o hp => iters_lck (w0 := w0.addZ p) ha hs⟩
theorem rangeL_len : ∀ (n : Nat) (i : Int), (rangeL i n).length = n
  | 0, _ => rfl
  | n + 1, i => by unfold rangeL; rw [List.length_cons, rangeL_len n]
theorem rangeL_get : ∀ (n : Nat) (i : Int) (j : Nat) (d : D), (rangeL i n)[j]? = some d → d = .int (i + j) ∧ j < n
  | 0, _, _, _, h => by simp [rangeL] at h
  | n + 1, i, 0, d, h => by simp [rangeL] at h; subst h; exact ⟨by simp, Nat.succ_pos _⟩
  | n + 1, i, j + 1, d, h => by
    simp only [rangeL, List.getElem?_cons_succ] at h
    obtain ⟨h1, h2⟩ := rangeL_get n (i + 1) j d h
    refine ⟨?_, by omega⟩
    rw [h1]
    congr 1
    omega
theorem iters_rng {H0 : Hp} {w0 : Wl c} (i : Int) (n : Nat) : Iters (L2.Itr i n) H0 w0 (rangeL i n) := by
  refine ⟨fun H w j d x kk hd => ?_, fun H w j x kk hj => ?_⟩
  · obtain ⟨h1, h2⟩ := rangeL_get n i j d hd
    subst h1
    refine ⟨h2, fun y H' hy => ?_⟩
    obtain ⟨rfl, rfl⟩ := hy
    exact ⟨.refl, kk, .int _⟩
  · rw [rangeL_len] at hj
    exact hj
theorem enumL_get : ∀ (xs : List D) (i : Int) (j : Nat) (d : D), (enumL i xs)[j]? = some d → ∃ x, xs[j]? = some x ∧ d = .tuple [.int (i + j), x]
  | [], _, _, _, h => by simp [enumL] at h
  | x :: xs, i, 0, d, h => by simp [enumL] at h; subst h; exact ⟨x, rfl, by simp⟩
  | x :: xs, i, j + 1, d, h => by
    simp only [enumL, List.getElem?_cons_succ] at h
    obtain ⟨y, h1, h2⟩ := enumL_get xs (i + 1) j d h
    refine ⟨y, by simpa using h1, ?_⟩
    rw [h2]
    congr 3
    omega
theorem enumL_len : ∀ (xs : List D) (i : Int), (enumL i xs).length = xs.length
  | [], _ => rfl
  | x :: xs, i => by unfold enumL; rw [List.length_cons, List.length_cons, enumL_len xs]
theorem iters_enum {K : PySem.W.Frag} {H0 : Hp} {w0 : Wl c} {a : Addr} {xs : List V} {ds : List D} (h : H0 a = some (.lst xs)) (n : ¬ live w0.A w0.S a) (k0 : Wok H0 w0) (r : RpAll H0 w0 xs ds) : Iters (Ite K a) H0 w0 (enumL 0 ds) := by
  refine ⟨fun H w i d x kk hd => ?_, fun H w i x kk hi => ?_⟩
  · have hH := (x.keep a _ h n).1
    have r' := r.ext x k0
    obtain ⟨e, he, rfl⟩ := enumL_get ds 0 i d hd
    obtain ⟨v, hv, rv⟩ := r'.get he
    refine ⟨⟨xs, v, SqL.of hH, hv⟩, fun y H' hy => ?_⟩
    obtain ⟨T, z, rfl, hT, rfl, hy⟩ := hy
    have := hy xs (SqL.of hH)
    rw [hv] at this
    cases this
    refine ⟨ext_new hT, kk.new hT, ?_⟩
    have e0 : (0 + (i : Int)) = (i : Int) := by omega
    rw [e0]
    exact Rp.newT kk hT (.cons (.int _) (.cons rv .nil))
  · rw [enumL_len] at hi
    exact ⟨xs, SqL.of (x.keep a _ h n).1, by rw [r.length]; exact hi⟩
theorem zipL_get : ∀ (xs ys : List D) (j : Nat) (d : D), (zipL xs ys)[j]? = some d → ∃ x y, xs[j]? = some x ∧ ys[j]? = some y ∧ d = .tuple [x, y]
  | [], _, _, _, h => by simp [zipL] at h
  | _ :: _, [], _, _, h => by simp [zipL] at h
  | x :: xs, y :: ys, 0, d, h => by simp [zipL] at h; subst h; exact ⟨x, y, rfl, rfl, rfl⟩
  | x :: xs, y :: ys, j + 1, d, h => by
    simp only [zipL, List.getElem?_cons_succ] at h
    obtain ⟨a, b, h1, h2, h3⟩ := zipL_get xs ys j d h
    exact ⟨a, b, by simpa using h1, by simpa using h2, h3⟩
theorem zipL_len : ∀ (xs ys : List D), (zipL xs ys).length = min xs.length ys.length
  | [], _ => by simp [zipL]
  | _ :: _, [] => by simp [zipL]
  | x :: xs, y :: ys => by unfold zipL; rw [List.length_cons, List.length_cons, List.length_cons, zipL_len xs ys]; omega
theorem iters_zip {K : PySem.W.Frag} {H0 : Hp} {w0 : Wl c} {a b : Addr} {xs ys : List V} {ds es : List D} (h : H0 a = some (.lst xs)) (n : ¬ live w0.A w0.S a) (h' : H0 b = some (.lst ys)) (n' : ¬ live w0.A w0.S b) (k0 : Wok H0 w0) (r : RpAll H0 w0 xs ds) (r' : RpAll H0 w0 ys es) : Iters (Itz K a b) H0 w0 (zipL ds es) := by
  refine ⟨fun H w i d x kk hd => ?_, fun H w i x kk hi => ?_⟩
  · have hH := (x.keep a _ h n).1
    have hH' := (x.keep b _ h' n').1
    obtain ⟨e1, e2, g1, g2, rfl⟩ := zipL_get ds es i d hd
    obtain ⟨v, hv, rv⟩ := (r.ext x k0).get g1
    obtain ⟨u, hu, ru⟩ := (r'.ext x k0).get g2
    refine ⟨⟨xs, ys, v, u, SqL.of hH, SqL.of hH', hv, hu⟩, fun y H' hy => ?_⟩
    obtain ⟨T, z, z', rfl, hT, rfl, hy, hy'⟩ := hy
    have q1 := hy xs (SqL.of hH)
    rw [hv] at q1
    cases q1
    have q2 := hy' ys (SqL.of hH')
    rw [hu] at q2
    cases q2
    exact ⟨ext_new hT, kk.new hT, Rp.newT kk hT (.cons rv (.cons ru .nil))⟩
  · rw [zipL_len] at hi
    exact ⟨xs, ys, SqL.of (x.keep a _ h n).1, SqL.of (x.keep b _ h' n').1, by rw [r.length, r'.length]; omega⟩
theorem iters_zipT {K : PySem.W.Frag} {H0 : Hp} {w0 : Wl c} {a b : Addr} {xs ys : List V} {ds es : List D} (h : H0 a = some (.tup xs)) (h' : H0 b = some (.tup ys)) (k0 : Wok H0 w0) (r : RpAll H0 w0 xs ds) (r' : RpAll H0 w0 ys es) : Iters (RZ.ItzT K a b) H0 w0 (zipL ds es) := by
  refine ⟨fun H w i d x kk hd => ?_, fun H w i x kk hi => ?_⟩
  · have hH := (x.mv k0).tup a _ h
    have hH' := (x.mv k0).tup b _ h'
    obtain ⟨e1, e2, g1, g2, rfl⟩ := zipL_get ds es i d hd
    obtain ⟨v, hv, rv⟩ := (r.ext x k0).get g1
    obtain ⟨u, hu, ru⟩ := (r'.ext x k0).get g2
    refine ⟨⟨xs, ys, v, u, SqT.of hH, SqT.of hH', hv, hu⟩, fun y H' hy => ?_⟩
    obtain ⟨T, z, z', rfl, hT, rfl, hy, hy'⟩ := hy
    have q1 := hy xs (SqT.of hH)
    rw [hv] at q1
    cases q1
    have q2 := hy' ys (SqT.of hH')
    rw [hu] at q2
    cases q2
    exact ⟨ext_new hT, kk.new hT, Rp.newT kk hT (.cons rv (.cons ru .nil))⟩
  · rw [zipL_len] at hi
    exact ⟨xs, ys, SqT.of ((x.mv k0).tup a _ h), SqT.of ((x.mv k0).tup b _ h'), by rw [r.length, r'.length]; omega⟩

theorem itersZ_rng {H0 : Hp} {w0 : Wl c} (i : Int) (n : Nat) : ItersZ (L2.Itr i n) H0 w0 (rangeL i n) := ⟨iters_rng i n, fun p o hp => iters_rng i n⟩
theorem itersZ_enum {K : PySem.W.Frag} {H0 : Hp} {w0 : Wl c} {a : Addr} {xs : List V} {ds : List D} (h : H0 a = some (.lst xs)) (n : ¬ live w0.A w0.S a) (k0 : Wok H0 w0) (r : RpAll H0 w0 xs ds) : ItersZ (Ite K a) H0 w0 (enumL 0 ds) :=
  ⟨iters_enum h n k0 r, fun p o hp => iters_enum (w0 := w0.addZ p) (by rw [upd_ne (ne_of_none h hp)]; exact h) n (wok_addZ k0 hp) (r.mv (mv_addZ hp))⟩
theorem itersZ_zip {K : PySem.W.Frag} {H0 : Hp} {w0 : Wl c} {a b : Addr} {xs ys : List V} {ds es : List D} (h : H0 a = some (.lst xs)) (n : ¬ live w0.A w0.S a) (h' : H0 b = some (.lst ys)) (n' : ¬ live w0.A w0.S b) (k0 : Wok H0 w0) (r : RpAll H0 w0 xs ds) (r' : RpAll H0 w0 ys es) : ItersZ (Itz K a b) H0 w0 (zipL ds es) :=
  ⟨iters_zip h n h' n' k0 r r', fun p o hp => iters_zip (w0 := w0.addZ p) (by rw [upd_ne (ne_of_none h hp)]; exact h) n (by rw [upd_ne (ne_of_none h' hp)]; exact h') n' (wok_addZ k0 hp) (r.mv (mv_addZ hp)) (r'.mv (mv_addZ hp))⟩
theorem itersZ_zipT {K : PySem.W.Frag} {H0 : Hp} {w0 : Wl c} {a b : Addr} {xs ys : List V} {ds es : List D} (h : H0 a = some (.tup xs)) (h' : H0 b = some (.tup ys)) (k0 : Wok H0 w0) (r : RpAll H0 w0 xs ds) (r' : RpAll H0 w0 ys es) : ItersZ (RZ.ItzT K a b) H0 w0 (zipL ds es) :=
  ⟨iters_zipT h h' k0 r r', fun p o hp => iters_zipT (by rw [upd_ne (ne_of_none h hp)]; exact h) (by rw [upd_ne (ne_of_none h' hp)]; exact h') (wok_addZ k0 hp) (r.mv (mv_addZ hp)) (r'.mv (mv_addZ hp))⟩
end MP
end

section
set_option Elab.async false
set_option linter.all false
set_option maxRecDepth 100000
set_option maxHeartbeats 4000000
set_option autoImplicit false
namespace MP
open PySem L2 PySem.Spec PyProof.Rows
variable {nm : Nm} {c : Cfg} {G : Nat → Option D} {C : Call} {k : Nat}
/-! ### locks -/
section
variable {H : Hp} {w : Wl c}
theorem lock_cases (S : Store) (d : D) : lock S d = S ∨ ∃ n xs, d = rf n ∧ S[n]? = some (.lst xs) ∧ lock S d = S.set n (.lck xs) := by
  unfold lock
  split
  · rename_i n e
    have := asRef_eq e
    subst this
    split
    · rename_i xs h
      exact .inr ⟨n, xs, rfl, h, rfl⟩
    · exact .inl rfl
  · exact .inl rfl
theorem relive {A : List Addr} {S : Store} {n : Nat} {a : Addr} {o o' : Ob} (h : S[n]? = some o) (al : o.alive = true) (al' : o'.alive = true) : live A (S.set n o') a ↔ live A S a := by
  refine ⟨live_set h al, ?_⟩
  rintro ⟨m, q, h1, h2, h3⟩
  by_cases e : n = m
  · subst e
    have hl : n < S.length := by
      rcases Nat.lt_or_ge n S.length with z | z
      · exact z
      · rw [List.getElem?_eq_none z] at h; cases h
    exact ⟨n, o', h1, List.getElem?_set_self hl, al'⟩
  · exact ⟨m, q, h1, by rw [List.getElem?_set_ne e]; exact h2, h3⟩
/-- a list is marked: what is told of it stays -/
theorem mark_mv {n : Nat} {o o' : Ob} (h : w.S[n]? = some o) (al : o.alive = true) (al' : o'.alive = true) : Mv H w H ({ w with S := w.S.set n o' } : Wl c) := by
  refine ⟨fun _ _ h => h, fun a xs e nm => ⟨e, ?_⟩, fun _ _ h => h, fun _ _ _ h => h⟩
  rintro (z | z)
  · exact nm (.inl ((relive h al al').mp z))
  · exact nm (.inr z)
theorem mark_wok (k : Wok H w) {n : Nat} {o o' : Ob} (h : w.S[n]? = some o) (al : o.alive = true) (al' : o'.alive = true) (ho : ∀ a, ObR H w a o → ObR H w a o') : Wok H ({ w with S := w.S.set n o' } : Wl c) := by
  have m : Mv H w H ({ w with S := w.S.set n o' } : Wl c) := mark_mv h al al'
  have hal : ∀ (i : Nat) (q : Ob), (w.S.set n o')[i]? = some q → q.alive = true → ∃ q', w.S[i]? = some q' ∧ q'.alive = true := fun i q e hq => by
    rcases set_some e with ⟨rfl, rfl⟩ | ⟨_, e⟩
    · exact ⟨o, h, al⟩
    · exact ⟨q, e, hq⟩
  refine ⟨by show w.A.length = (w.S.set n _).length; rw [List.length_set]; exact k.len, fun i j b q q2 h1 h2 h3 h4 h5 h6 => ?_, fun i b q h1 h2 => ?_, fun b z => k.nz b ((relive h al al').mp z), k.tr⟩
  · obtain ⟨q', g1, g2⟩ := hal i q h3 h4
    obtain ⟨q2', g3, g4⟩ := hal j q2 h5 h6
    exact k.inj i j b q' q2' h1 h2 g1 g2 g3 g4
  · rcases set_some h2 with ⟨rfl, rfl⟩ | ⟨e, h2⟩
    · exact (ho b (k.obj i b o h1 h)).ext m fun _ => rfl
    · exact (k.obj i b q h1 h2).ext m fun _ => rfl
theorem lock_wok (k : Wok H w) (d : D) : Wok H ({ w with S := lock w.S d } : Wl c) := by
  rcases lock_cases w.S d with e | ⟨n, xs, rfl, h, e⟩
  · rw [e]; exact k
  · rw [e]; exact mark_wok k h rfl rfl fun a r => r
theorem lock_ext (d : D) : Ext H w H ({ w with S := lock w.S d } : Wl c) := by
  rcases lock_cases w.S d with e | ⟨n, xs, rfl, h, e⟩
  · rw [e]; exact .refl
  · rw [e]
    refine ⟨⟨[], by simp⟩, rfl, fun b u hb nb => ⟨hb, fun z => nb (live_set h rfl z)⟩, fun m ys hm => ?_⟩
    show (w.S.set n (.lck xs))[m]? = _
    rw [List.getElem?_set_ne]
    · exact hm
    · intro z
      subst z
      rw [h] at hm
      cases hm
/-- the lock is taken off: seen from ahead of it -/
theorem unlock_ok {H1 : Hp} {w1 : Wl c} (k1 : Wok H1 w1) (d : D) (x : Ext H ({ w with S := lock w.S d } : Wl c) H1 w1) : Ext H w H1 ({ w1 with S := unlock w.S w1.S d } : Wl c) ∧ Wok H1 ({ w1 with S := unlock w.S w1.S d } : Wl c) ∧ Mv H1 w1 H1 ({ w1 with S := unlock w.S w1.S d } : Wl c) := by
  rcases lock_cases w.S d with e | ⟨n, xs, rfl, h, e⟩
  · have u : unlock w.S w1.S d = w1.S := by
      unfold unlock
      split
      · rename_i n hn
        split
        · rename_i ys zs h1 h2
          exfalso
          have := asRef_eq hn
          subst this
          unfold lock at e
          rw [hn] at e
          simp only [h1] at e
          have hl : n < w.S.length := by
            rcases Nat.lt_or_ge n w.S.length with z | z
            · exact z
            · rw [List.getElem?_eq_none z] at h1; cases h1
          have q : (w.S.set n (.lck ys))[n]? = w.S[n]? := by rw [e]
          rw [List.getElem?_set_self hl, h1] at q
          cases q
        · rfl
      · rfl
    rw [u]
    rw [e] at x
    exact ⟨x, k1, ⟨fun _ _ h => h, fun _ _ h n => ⟨h, n⟩, fun _ _ h => h, fun _ _ _ h => h⟩⟩
  · rw [e] at x
    have hl : n < w.S.length := by
      rcases Nat.lt_or_ge n w.S.length with z | z
      · exact z
      · rw [List.getElem?_eq_none z] at h; cases h
    have h1 : w1.S[n]? = some (.lck xs) := x.lck n xs (List.getElem?_set_self hl)
    have u : unlock w.S w1.S (rf n) = w1.S.set n (.lst xs) := by
      unfold unlock
      simp only [asRef, h, h1]
    rw [u]
    refine ⟨⟨x.A, x.Z, fun b o hb nb => ?_, fun m ys hm => ?_⟩, mark_wok k1 h1 rfl rfl fun a r => r, mark_mv h1 rfl rfl⟩
    · obtain ⟨g1, g2⟩ := x.keep b o hb (fun z => nb (live_set h rfl z))
      exact ⟨g1, fun z => g2 (live_set h1 rfl z)⟩
    · have hne : n ≠ m := fun z => by
        subst z
        rw [h] at hm; cases hm
      show (w1.S.set n (.lst xs))[m]? = _
      rw [List.getElem?_set_ne hne]
      refine x.lck m ys ?_
      show (w.S.set n (.lck xs))[m]? = _
      rw [List.getElem?_set_ne hne]
      exact hm
end
variable (nm c G C k) in
def SndJ (j : Itr) : Prop := ∀ (X : Cx) (cx : SC) (W : WX) (tg x : Expr), XO nm c G C k X cx W → okJ nm cx j (isTupE tg) x = true → PI X tg x (rdJ c W (evj G C j)) ∧ fine x = true
theorem sndj_of {e : E} (he : SndE nm c G C k e) : SndJ nm c G C k (.of e) := by
  intro X cx W tg x ox h
  simp only [okJ, Bool.and_eq_true] at h
  refine ⟨?_, h.1⟩
  have pe := he.pe X cx W false x ox h.2
  refine ⟨fun pins s σ H R I hh => ?_⟩
  obtain ⟨w, r, kk, er, o⟩ := hh
  simp only [evj] at o
  cases hr : ev G C e r w.S with
  | bad => rw [hr] at o; exact o.elim
  | exc n S' =>
    rw [hr] at o
    exact (pi_list pe).run pins s σ H R I ⟨w, r, kk, er, by rw [hr]; exact o⟩
  | ok d S' =>
    rw [hr] at o
    obtain ⟨items, hi, o⟩ := o
    cases d with
    | tuple xs =>
      cases hi
      refine (pi_tup pe).run pins s σ H R I ⟨w, r, kk, er, ?_⟩
      rw [hr]
      intro H' w' v x1 es k1 r1
      subst es
      obtain ⟨a, us, rfl, h1, h2⟩ := r1.tup_inv
      exact ⟨a, rfl, ⟨us, SqT.of h1⟩, o H' w' _ x1 rfl k1 (itersZ_tup (w0 := w') h1 k1 h2)⟩
    | list xs =>
      cases hi
      refine (pi_list pe).run pins s σ H R I ⟨w, r, kk, er, ?_⟩
      rw [hr]
      intro H' w' v x1 es k1 r1
      subst es
      obtain ⟨a, us, rfl, h1, hn, h2⟩ := r1.lst_inv
      exact ⟨a, rfl, ⟨us, SqL.of h1⟩, o H' w' _ x1 rfl k1 (itersZ_lst (w0 := w') h1 (fun z => hn (.inl z)) k1 h2)⟩
    | dict kvs =>
      refine (pi_list pe).run pins s σ H R I ⟨w, r, kk, er, ?_⟩
      rw [hr]
      intro H' w' v x1 es k1 r1
      subst es
      have hi : viewR w'.S (.dict kvs) = some items := hi
      unfold viewR at hi
      split at hi
      · rename_i n en
        have e2 := asRef_eq en
        rw [e2] at r1 o
        obtain ⟨a, rfl, ha⟩ := r1.ref_inv
        split at hi
        · rename_i xs hx
          cases hi
          obtain ⟨us, h1, h2⟩ := k1.obj n a _ ha hx
          refine ⟨a, rfl, ⟨us, SqL.of h1⟩, o H' w' _ x1 rfl k1 (itersZ_lck (n := n) ha ?_)⟩
          show (lock w'.S (rf n))[n]? = _
          have hl : n < w'.S.length := by
            rcases Nat.lt_or_ge n w'.S.length with z | z
            · exact z
            · rw [List.getElem?_eq_none z] at hx; cases hx
          unfold lock
          simp only [asRef, hx]
          exact List.getElem?_set_self hl
        · rename_i xs hx
          cases hi
          obtain ⟨us, h1, h2⟩ := k1.obj n a _ ha hx
          refine ⟨a, rfl, ⟨us, SqL.of h1⟩, o H' w' _ x1 rfl k1 (itersZ_lck (n := n) ha ?_)⟩
          show (lock w'.S (rf n))[n]? = _
          unfold lock
          simp only [asRef, hx]
        · cases hi
      · cases hi
    | none => cases hi
    | bool _ => cases hi
    | int _ => cases hi
    | str _ => cases hi
theorem lock_list (S : Store) (xs : List D) : lock S (.list xs) = S := rfl
theorem sndj_rng1 {a : E} (ha : SndE nm c G C k a) : SndJ nm c G C k (.rng1 a) := by
  intro X cx W tg x ox h
  cases x <;> first | exact Bool.noConfusion (show false = true from h) | skip
  rename_i fe xs kws pos
  match fe, xs, kws, h with
  | .Name y py, [a'], [], h =>
    simp only [okJ, Bool.and_eq_true, decide_eq_true_eq] at h
    obtain ⟨⟨⟨rfl, hg⟩, hf⟩, h1⟩ := h
    refine ⟨?_, rfl⟩
    have hs1 : starEach [a'] X.env = [(false, eval a' X.env)] := fine_star hf
    refine PI.imp (pi_range1 (gl_of ox.sc hg) (ox.tb.bl _ (by decide)) (pa_cons (ha.pe X cx W false a' ox h1) pa_nil (fine_star hf)) hs1) fun σ H R ⟨w, r, kk, er, o⟩ => ?_
    refine ⟨w, r, kk, er, ?_⟩
    simp only [evj] at o
    cases hr : ev G C a r w.S with
    | bad => rw [hr] at o; exact o
    | exc n S' => rw [hr] at o; exact o
    | ok d S' =>
      rw [hr] at o
      intro H' w' v x1 es k1 r1
      subst es
      simp only [Res.bind] at o
      split at o
      · rename_i j
        unfold okI at o
        split at o
        · rename_i hb
          simp only [inR, Bool.and_eq_true, decide_eq_true_eq] at hb
          obtain ⟨items, hi, o⟩ := o
          cases hi
          rw [r1.int_inv]
          exact ⟨j, rfl, hb.1, hb.2, o H' w' _ x1 rfl k1 (itersZ_rng 0 _)⟩
        · exact o.elim
      · exact o.elim
theorem sndj_rng {a b : E} (ha : SndE nm c G C k a) (hb : SndE nm c G C k b) : SndJ nm c G C k (.rng a b) := by
  intro X cx W tg x ox h
  cases x <;> first | exact Bool.noConfusion (show false = true from h) | skip
  rename_i fe xs kws pos
  match fe, xs, kws, h with
  | .Name y py, [a', b'], [], h =>
    simp only [okJ, Bool.and_eq_true, decide_eq_true_eq] at h
    obtain ⟨⟨⟨⟨⟨rfl, hg⟩, hf⟩, hf2⟩, h1⟩, h2⟩ := h
    refine ⟨?_, rfl⟩
    have s2 : starEach [b'] X.env = [(false, eval b' X.env)] := fine_star hf2
    have s1 : starEach [a', b'] X.env = [(false, eval a' X.env), (false, eval b' X.env)] := by rw [fine_star hf, s2]
    refine PI.imp (pi_range2 (gl_of ox.sc hg) (ox.tb.bl _ (by decide)) (pa_cons (ha.pe X cx W false a' ox h1) (pa_cons (hb.pe X cx W false b' ox h2) pa_nil (fine_star hf2)) (fine_star hf)) s1 s2) fun σ H R ⟨w, r, kk, er, o⟩ => ?_
    refine ⟨w, r, kk, er, ?_⟩
    simp only [evj] at o
    cases hr : ev G C a r w.S with
    | bad => rw [hr] at o; exact o
    | exc n S' => rw [hr] at o; exact o
    | ok d S' =>
      rw [hr] at o
      intro H' w' v x1 es k1 r1
      subst es
      refine ⟨w', r, k1, er.ext x1 kk, ?_⟩
      simp only [Res.bind] at o
      cases hr2 : ev G C b r w'.S with
      | bad => rw [hr2] at o; exact o
      | exc n S' =>
        rw [hr2] at o
        exact fun H2 w2 x2 e2 k2 => o H2 w2 (x1.trans x2) e2 k2
      | ok e S2 =>
        rw [hr2] at o
        intro H2 w2 u x2 es2 k2 r2
        subst es2
        simp only at o
        split at o
        · rename_i i j
          unfold okI at o
          split at o
          · rename_i hbb
            simp only [inR, Bool.and_eq_true, decide_eq_true_eq] at hbb
            obtain ⟨items, hi, o⟩ := o
            cases hi
            rw [r1.int_inv, r2.int_inv]
            exact ⟨i, j, rfl, ⟨hbb.1.1, hbb.1.2, hbb.2.1, hbb.2.2⟩, o H2 w2 _ (x1.trans x2) rfl k2 (itersZ_rng i _)⟩
          · exact o.elim
        · exact o.elim
theorem sndj_enum {a : E} (ha : SndE nm c G C k a) : SndJ nm c G C k (.enum a) := by
  intro X cx W tg x ox h
  cases x <;> first | exact Bool.noConfusion (show false = true from h) | skip
  rename_i fe xs kws pos
  match fe, xs, kws, h with
  | .Name y py, [a'], [], h =>
    simp only [okJ, Bool.and_eq_true, decide_eq_true_eq] at h
    obtain ⟨⟨⟨⟨ht, rfl⟩, hg⟩, hf⟩, h1⟩ := h
    refine ⟨?_, rfl⟩
    cases tg <;> first | exact Bool.noConfusion (show false = true from ht) | skip
    have s1 : starEach [a'] X.env = [(false, eval a' X.env)] := fine_star hf
    refine PI.imp (pi_enum (gl_of ox.sc hg) (ox.tb.bl _ (by decide)) (pa_cons (ha.pe X cx W false a' ox h1) pa_nil (fine_star hf)) s1) fun σ H R ⟨w, r, kk, er, o⟩ => ?_
    refine ⟨w, r, kk, er, ?_⟩
    simp only [evj] at o
    cases hr : ev G C a r w.S with
    | bad => rw [hr] at o; exact o
    | exc n S' => rw [hr] at o; exact o
    | ok d S' =>
      rw [hr] at o
      intro H' w' v x1 es k1 r1
      subst es
      simp only [Res.bind] at o
      split at o
      · obtain ⟨items, hi, o⟩ := o
        cases hi
        obtain ⟨a, us, rfl, g1, gn, g2⟩ := r1.lst_inv
        exact ⟨a, us, rfl, SqL.of g1, o H' w' _ x1 rfl k1 (itersZ_enum (w0 := w') g1 (fun z => gn (.inl z)) k1 g2)⟩
      · exact o.elim
theorem sndj_zip {a b : E} (ha : SndE nm c G C k a) (hb : SndE nm c G C k b) : SndJ nm c G C k (.zip a b) := by
  intro X cx W tg x ox h
  cases x <;> first | exact Bool.noConfusion (show false = true from h) | skip
  rename_i fe xs kws pos
  match fe, xs, kws, h with
  | .Name y py, [a', b'], [], h =>
    simp only [okJ, Bool.and_eq_true, decide_eq_true_eq] at h
    obtain ⟨⟨⟨⟨⟨⟨ht, rfl⟩, hg⟩, hf⟩, hf2⟩, h1⟩, h2⟩ := h
    refine ⟨?_, rfl⟩
    cases tg <;> first | exact Bool.noConfusion (show false = true from ht) | skip
    refine PI.imp (RZ.pi_zipA (gl_of ox.sc hg) (ox.tb.bl _ (by decide)) (pa_cons (ha.pe X cx W false a' ox h1) (pa_cons (hb.pe X cx W false b' ox h2) pa_nil (fine_star hf2)) (fine_star hf)) (fine_star hf) (back_any (xs := [b']) (fun x hx => by rw [List.mem_singleton] at hx; subst hx; exact hf2))) fun σ H R ⟨w, r, kk, er, o⟩ => ?_
    refine ⟨w, r, kk, er, ?_⟩
    simp only [evj] at o
    cases hr : ev G C a r w.S with
    | bad => rw [hr] at o; exact o
    | exc n S' => rw [hr] at o; exact o
    | ok d S' =>
      rw [hr] at o
      intro H' w' v x1 es k1 r1
      subst es
      refine ⟨w', r, k1, er.ext x1 kk, ?_⟩
      simp only [Res.bind] at o
      cases hr2 : ev G C b r w'.S with
      | bad => rw [hr2] at o; exact o
      | exc n S' =>
        rw [hr2] at o
        exact fun H2 w2 x2 e2 k2 => o H2 w2 (x1.trans x2) e2 k2
      | ok e S2 =>
        rw [hr2] at o
        intro H2 w2 u x2 es2 k2 r2
        subst es2
        simp only at o
        split at o
        · obtain ⟨items, hi, o⟩ := o
          cases hi
          obtain ⟨p, us, rfl, g1, gn, g2⟩ := (r1.ext x2 k1).lst_inv
          obtain ⟨q, vs, rfl, g3, gn3, g4⟩ := r2.lst_inv
          exact ⟨p, q, us, vs, rfl, .inl ⟨SqL.of g1, SqL.of g3, o H2 w2 _ (x1.trans x2) rfl k2 (itersZ_zip (w0 := w2) g1 (fun z => gn (.inl z)) g3 (fun z => gn3 (.inl z)) k2 g2 g4)⟩⟩
        · obtain ⟨items, hi, o⟩ := o
          cases hi
          obtain ⟨p, us, rfl, g1, g2⟩ := (r1.ext x2 k1).tup_inv
          obtain ⟨q, vs, rfl, g3, g4⟩ := r2.tup_inv
          exact ⟨p, q, us, vs, rfl, .inr ⟨SqT.of g1, SqT.of g3, o H2 w2 _ (x1.trans x2) rfl k2 (itersZ_zipT (w0 := w2) g1 g3 k2 g2 g4)⟩⟩
        · exact o.elim
end MP
end

section
set_option Elab.async false
set_option linter.all false
set_option maxRecDepth 100000
set_option maxHeartbeats 4000000
set_option autoImplicit false
namespace MP
open PySem L2 PySem.Spec PyProof.Rows
variable {nm : Nm} {c : Cfg} {G : Nat → Option D} {C : Call} {k : Nat}
/-! ### the list that a comprehension fills -/
structure ExtX (p : Addr) (H : Hp) (w : Wl c) (H' : Hp) (w' : Wl c) : Prop where
  A : ∃ B, w'.A = w.A ++ B
  Z : w'.Z = w.Z
  keep : ∀ a o, a ≠ p → H a = some o → ¬ live w.A w.S a → H' a = some o ∧ ¬ live w'.A w'.S a
  lck : ∀ (n : Nat) (xs : List D), w.S[n]? = some (.lck xs) → w'.S[n]? = some (.lck xs)
theorem ExtX.trans {p : Addr} {H H1 H2 : Hp} {w w1 w2 : Wl c} (a : ExtX p H w H1 w1) (b : Ext H1 w1 H2 w2) : ExtX p H w H2 w2 := by
  obtain ⟨B, hB⟩ := a.A
  obtain ⟨B', hC⟩ := b.A
  refine ⟨⟨B ++ B', by rw [hC, hB, List.append_assoc]⟩, b.Z.trans a.Z, fun q o e h n => ?_, fun n xs h => b.lck n xs (a.lck n xs h)⟩
  obtain ⟨h1, n1⟩ := a.keep q o e h n
  exact b.keep q o h1 n1
theorem ExtX.store {p : Addr} {H H1 : Hp} {w w1 : Wl c} {o : HO} (a : ExtX p H w H1 w1) : ExtX p H w (upd H1 p o) w1 :=
  ⟨a.A, a.Z, fun q u e h n => let ⟨h1, n1⟩ := a.keep q u e h n; ⟨by rw [upd_ne e]; exact h1, n1⟩, a.lck⟩
theorem ExtX.ext {p : Addr} {H H1 : Hp} {w w1 : Wl c} {o : HO} (a : ExtX p H w H1 w1) (hp : H1 p = some o) (nl : ¬ live w1.A w1.S p) : Ext (upd H p o) w H1 w1 := by
  refine ⟨a.A, a.Z, fun q u h n => ?_, a.lck⟩
  by_cases e : q = p
  · subst e
    rw [upd_same] at h
    cases h
    exact ⟨hp, nl⟩
  · rw [upd_ne e] at h
    exact a.keep q u e h n
section
variable {H : Hp} {w : Wl c} {p : Addr}
theorem zstore_mv {o : HO} {xs : List V} (hz : w.Z p) (hp : H p = some (.lst xs)) : Mv H w (upd H p o) w := by
  refine ⟨fun _ _ h => h, fun a ys h n => ⟨?_, n⟩, fun a ys h => ?_, fun a ob u h => ?_⟩
  · rw [upd_ne (fun e => n (.inr (by rw [e]; exact hz)))]; exact h
  · rw [upd_ne (fun e => by rw [e, hp] at h; cases h)]; exact h
  · rw [upd_ne (fun e => by rw [e, hp] at h; cases h)]; exact h
theorem zstore_wok {o : HO} {xs : List V} (k : Wok H w) (hz : w.Z p) (hp : H p = some (.lst xs)) : Wok (upd H p o) w := by
  have m : Mv H w (upd H p o) w := zstore_mv hz hp
  refine ⟨k.len, k.inj, fun n a q h1 h2 => (k.obj n a q h1 h2).ext m fun al => ?_, k.nz, fun a z => ?_⟩
  · rw [upd_ne (fun e => k.nz a ⟨n, q, h1, h2, al⟩ (by rw [e]; exact hz))]
  · by_cases e : a = p
    · subst e; exact ⟨o, upd_same⟩
    · obtain ⟨u, q⟩ := k.tr a z
      exact ⟨u, by rw [upd_ne e]; exact q⟩
def hide (H : Hp) (p : Addr) : Hp := fun b => if b = p then none else H b
theorem hide_ne {b : Addr} (h : b ≠ p) : hide H p b = H b := by unfold hide; rw [if_neg h]
theorem hide_at : hide H p p = none := by unfold hide; rw [if_pos rfl]
theorem hide_upd {o : HO} (h : H p = some o) : upd (hide H p) p o = H := by
  funext b
  by_cases e : b = p
  · subst e; rw [upd_same, h]
  · rw [upd_ne e, hide_ne e]
/-- the accumulator is let go: it is nothing yet -/
theorem hide_mv {xs : List V} {Z : Addr → Prop} (hp : H p = some (.lst xs)) (hz : w.Z p) (hZ : ∀ a, Z a → w.Z a) : Mv H w (hide H p) (⟨w.A, w.S, Z⟩ : Wl c) := by
  refine ⟨fun _ _ h => h, fun a ys h n => ⟨?_, ?_⟩, fun a ys h => ?_, fun a ob u h => ?_⟩
  · rw [hide_ne (fun e => n (.inr (by rw [e]; exact hz)))]; exact h
  · rintro (z | z)
    · exact n (.inl z)
    · exact n (.inr (hZ a z))
  · rw [hide_ne (fun e => by rw [e, hp] at h; cases h)]; exact h
  · rw [hide_ne (fun e => by rw [e, hp] at h; cases h)]; exact h
theorem hide_wok {xs : List V} {Z : Addr → Prop} (k : Wok H w) (hp : H p = some (.lst xs)) (hz : w.Z p) (hZ : ∀ a, Z a → w.Z a) (hn : ¬ Z p) : Wok (hide H p) (⟨w.A, w.S, Z⟩ : Wl c) := by
  have m : Mv H w (hide H p) (⟨w.A, w.S, Z⟩ : Wl c) := hide_mv hp hz hZ
  refine ⟨k.len, k.inj, fun n a q h1 h2 => (k.obj n a q h1 h2).ext m fun al => ?_, fun a l z => k.nz a l (hZ a z), fun a z => ?_⟩
  · rw [hide_ne (fun e => k.nz a ⟨n, q, h1, h2, al⟩ (by rw [e]; exact hz))]
  · obtain ⟨u, q⟩ := k.tr a (hZ a z)
    exact ⟨u, by rw [hide_ne (fun e => hn (by rw [← e]; exact z))]; exact q⟩
end
theorem wipe_off {is own : List Nat} {σ σ' : L2.St} (h : Off is (L2.wipe σ own) σ') (hi : ∀ i ∈ is, i ∈ own) : L2.wipe σ' own = L2.wipe σ own := by
  have hl : σ'.length = σ.length := by rw [h.1, wipe_length]
  have key : ∀ (vs : List Nat) (τ : L2.St) (j : Nat), (L2.wipe τ vs)[j]? = if j ∈ vs then (if j < τ.length then some none else none) else τ[j]? := by
    intro vs
    induction vs with
    | nil => intro τ j; simp [L2.wipe]
    | cons v vs ih =>
      intro τ j
      unfold L2.wipe
      by_cases e : v = j
      · subst e
        rw [if_pos (List.mem_cons_self ..)]
        by_cases hl : v < τ.length
        · rw [if_pos hl, List.getElem?_set_self (by rw [wipe_length]; exact hl)]
        · rw [if_neg hl, List.getElem?_eq_none (by rw [List.length_set, wipe_length]; omega)]
      · rw [List.getElem?_set_ne e, ih]
        have : (j ∈ v :: vs) ↔ (j ∈ vs) := by
          rw [List.mem_cons]
          exact ⟨fun z => z.resolve_left fun q => e q.symm, .inr⟩
        simp only [this]
  apply List.ext_getElem?
  intro j
  rw [key own σ' j, key own σ j, hl]
  by_cases hj : j ∈ own
  · rw [if_pos hj, if_pos hj]
  · rw [if_neg hj, if_neg hj, h.2 j (fun z => hj (hi j z)), key own σ j, if_neg hj]
/-! ### the reading of a comprehension -/
def rdC (c : Cfg) (G : Nat → Option D) (C : Call) : Oe → TT
  | .none => tYes
  | .some e => rdT c WF (ev G C e)
def compF (G : Nat → Option D) (C : Call) (elt : E) (tg : Tg) (cond : Oe) (r : Env) : D → Store → Res (Option D) := fun x S' => match bindTg tg x r with
  | some r' => (evo G C cond r' S').bind fun c S2 => (match c with
    | none => (ev G C elt r' S2).bind fun y S3 => .ok (some y) S3
    | some b => (match tru b with
      | some true => (ev G C elt r' S2).bind fun y S3 => .ok (some y) S3
      | some false => .ok none S2
      | none => .bad))
  | none => .bad
theorem compL_ok {f : D → Store → Res (Option D)} : ∀ (xs acc : List D) (S : Store), (compL f xs acc S = .bad) ∨ ∃ ds S', compL f xs acc S = .ok (.list ds) S'
  | [], acc, S => .inr ⟨acc, S, rfl⟩
  | x :: xs, acc, S => by
    unfold compL
    split
    · split
      · exact compL_ok xs _ _
      · exact .inl rfl
    · exact compL_ok xs _ _
    · exact .inl rfl
theorem comp_rd {fi : Bool} {W : WX} {elt : E} {tg : Tg} {it : MP.Itr} {cond : Oe} {own : List Nat} {σ : L2.St} {H : Hp} {Q : VK} (hsl : ∀ i ∈ slots tg, i ∈ own) (h : rdG fi c W (ev G C (.comp elt tg it cond own)) σ H Q) :
    tLc (rdJ c W (evj G C it)) (rdTg c tg) (rdC c G C cond) (rdE c WF (ev G C elt)) own σ H Q := by
  obtain ⟨w, r, kk, er, o⟩ := h
  refine ⟨w, r, kk, er, ?_⟩
  have o : Out fi c W σ H w Q ((evj G C it r w.S).bind fun d S1 => match viewS S1 d with
    | some items => (compL (compF G C elt tg cond (MP.wipe r own)) items [] (lock S1 d)).mapS fun S' => unlock S1 S' d
    | none => .bad) := o
  cases hr : evj G C it r w.S with
  | bad => rw [hr] at o; exact o
  | exc n S' => rw [hr] at o; exact o
  | ok d S1 =>
    rw [hr] at o
    simp only [Res.bind] at o
    split at o
    · rename_i items hi
      refine ⟨items, hi, fun H1 w1 J x1 es k1 its p hp => ?_⟩
      subst es
      have o := Out.trans o x1
      have hzp : ¬ w1.Z p := fun z => by
        obtain ⟨u, e⟩ := k1.tr p z
        rw [hp] at e; cases e
      -- inside: the store is locked, p is the list that is filled
      have kL := lock_wok k1 d
      have xL : Ext H1 w1 H1 ({ w1 with S := lock w1.S d } : Wl c) := lock_ext d
      have kz := wok_addZ (o := .lst []) kL hp
      have mz : Mv H1 ({ w1 with S := lock w1.S d } : Wl c) (upd H1 p (.lst [])) ((⟨w1.A, lock w1.S d, w1.Z⟩ : Wl c).addZ p) := mv_addZ hp
      generalize hf : compF G C elt tg cond (MP.wipe r own) = f at o
      rcases compL_ok (f := f) items [] (lock w1.S d) with hbad | ⟨dsF, SF, hF⟩
      · rw [hbad] at o; exact o.elim
      rw [hF] at o
      refine ⟨fun i m Hh => ∃ wi acc ds, ExtX p (upd H1 p (.lst [])) ((⟨w1.A, lock w1.S d, w1.Z⟩ : Wl c).addZ p) Hh wi ∧ Wok Hh wi ∧ Hh p = some (.lst acc) ∧ RpAll Hh wi acc ds ∧ ER Hh wi r σ ∧ i ≤ items.length ∧ m = items.length - i ∧ compL f (items.drop i) ds wi.S = .ok (.list dsF) SF, ⟨items.length, _, [], [], ⟨⟨[], by simp⟩, rfl, fun a u _ h n => ⟨h, n⟩, fun _ _ h => h⟩, kz, upd_same, .nil, ((er.ext x1 kk).ext xL k1).mv mz, Nat.zero_le _, rfl, hF⟩, ?_⟩
      rintro i m Hh ⟨wi, acc, ds, xi, ki, hpi, ri, eri, hle, rfl, hc⟩
      have hzi : wi.Z p := by rw [xi.Z]; exact .inr rfl
      have nlp : ¬ live wi.A wi.S p := fun z => ki.nz p z hzi
      by_cases hlt : i < items.length
      · -- one more turn
        have hd : items[i]? = some items[i] := List.getElem?_eq_getElem hlt
        have xg := xi.ext hpi nlp
        rw [upd_upd] at xg
        obtain ⟨go, yl⟩ := (its.2 p (.lst acc) hp).go Hh wi i items[i] xg ki hd
        refine .inr ⟨go, fun H'' => ∃ m', m' < items.length - i ∧ ∃ wi acc ds, ExtX p (upd H1 p (.lst [])) ((⟨w1.A, lock w1.S d, w1.Z⟩ : Wl c).addZ p) H'' wi ∧ Wok H'' wi ∧ H'' p = some (.lst acc) ∧ RpAll H'' wi acc ds ∧ ER H'' wi r σ ∧ i + 1 ≤ items.length ∧ m' = items.length - (i + 1) ∧ compL f (items.drop (i + 1)) ds wi.S = .ok (.list dsF) SF, fun H'' hN => hN, fun x H2 hy => ?_⟩
        obtain ⟨x2, k2, r2⟩ := yl x H2 hy
        rw [List.drop_eq_getElem_cons hlt] at hc
        -- what the turn gives
        have hcf : (∃ y S', f items[i] wi.S = .ok (some y) S' ∧ ds.length < big ∧ compL f (items.drop (i + 1)) (ds ++ [y]) S' = .ok (.list dsF) SF) ∨ (∃ S', f items[i] wi.S = .ok none S' ∧ compL f (items.drop (i + 1)) ds S' = .ok (.list dsF) SF) := by
          unfold compL at hc
          split at hc
          · rename_i y S' e
            split at hc
            · exact .inl ⟨y, S', e, by assumption, hc⟩
            · cases hc
          · rename_i S' e
            exact .inr ⟨S', e, hc⟩
          · cases hc
        have hb : ∃ r', bindTg tg items[i] (MP.wipe r own) = some r' := by
          cases e : bindTg tg items[i] (MP.wipe r own) with
          | some r' => exact ⟨r', rfl⟩
          | none =>
            exfalso
            have e2 : f items[i] wi.S = .bad := by rw [← hf]; unfold compF; rw [e]
            rcases hcf with ⟨y, S', e3, _⟩ | ⟨S', e3, _⟩ <;> (rw [e2] at e3; cases e3)
        obtain ⟨r', hb⟩ := hb
        have er2 : ER H2 wi r σ := eri.ext x2 ki
        refine ⟨wi, _, _, r', k2, er2.wipe own, r2, hb, fun σ' er' off => ⟨wipe_off off hsl, ?_⟩⟩
        have ef : f items[i] wi.S = (evo G C cond r' wi.S).bind fun c S2 => (match c with
            | none => (ev G C elt r' S2).bind fun y S3 => .ok (some y) S3
            | some b => (match tru b with
              | some true => (ev G C elt r' S2).bind fun y S3 => .ok (some y) S3
              | some false => .ok none S2
              | none => .bad)) := by rw [← hf]; unfold compF; rw [hb]
        have hp2 : H2 p = some (.lst acc) := (x2.keep p _ hpi nlp).1
        have xi2 := xi.trans x2
        -- the element, from a state behind the test
        have fin : ∀ (H3 : Hp) (w3 : Wl c), Ext H2 wi H3 w3 → Wok H3 w3 → ER H3 w3 r' σ' → (∃ y S3, ev G C elt r' w3.S = .ok y S3 ∧ ds.length < big ∧ compL f (items.drop (i + 1)) (ds ++ [y]) S3 = .ok (.list dsF) SF) →
            rdE c WF (ev G C elt) σ' H3 fun y H4 => ∃ acc, H4 p = some (.lst acc) ∧ acc.length < sizeLine ∧ ∃ m', m' < items.length - i ∧ ∃ wi acc_1 ds, ExtX p (upd H1 p (.lst [])) ((⟨w1.A, lock w1.S d, w1.Z⟩ : Wl c).addZ p) (upd H4 p (.lst (acc ++ [y]))) wi ∧ Wok (upd H4 p (.lst (acc ++ [y]))) wi ∧ (upd H4 p (.lst (acc ++ [y]))) p = some (.lst acc_1) ∧ RpAll (upd H4 p (.lst (acc ++ [y]))) wi acc_1 ds ∧ ER (upd H4 p (.lst (acc ++ [y]))) wi r σ ∧ i + 1 ≤ items.length ∧ m' = items.length - (i + 1) ∧ compL f (items.drop (i + 1)) ds wi.S = .ok (.list dsF) SF := by
          intro H3 w3 x3 k3 er3 ⟨y, S3, he, hbig, hrest⟩
          refine ⟨w3, r', k3, er3, ?_⟩
          rw [he]
          intro H4 w4 v x4 es4 k4 r4
          subst es4
          have hz3 : w3.Z p := by rw [x3.Z]; exact hzi
          have hz4 : w4.Z p := by rw [x4.Z]; exact hz3
          have hp3 : H3 p = some (.lst acc) := (x3.keep p _ hp2 nlp).1
          have hp4 : H4 p = some (.lst acc) := (x4.keep p _ hp3 fun z => k3.nz p z hz3).1
          have rr : RpAll H4 w4 acc ds := ((ri.ext x2 ki).ext x3 k2).ext x4 k3
          refine ⟨acc, hp4, by rw [rr.length, ← big_eq]; exact hbig, items.length - (i + 1), by omega, w4, acc ++ [v], ds ++ [y], ((xi2.trans x3).trans x4).store, zstore_wok k4 hz4 hp4, upd_same, (rr.append (.cons r4 .nil)).mv (zstore_mv hz4 hp4), (((er2.ext x3 k2).ext x4 k3)).mv (zstore_mv hz4 hp4), hlt, rfl, hrest⟩
        cases cond with
        | none =>
          simp only [rdC, tYes, if_true]
          refine fin H2 wi .refl k2 er' ?_
          simp only [evo, Res.bind] at ef
          cases he : ev G C elt r' wi.S with
          | bad => rw [he] at ef; rcases hcf with ⟨y, S', e3, _⟩ | ⟨S', e3, _⟩ <;> (rw [ef] at e3; cases e3)
          | exc n S' => rw [he] at ef; rcases hcf with ⟨y, S', e3, _⟩ | ⟨S', e3, _⟩ <;> (rw [ef] at e3; cases e3)
          | ok y S' =>
            rw [he] at ef
            rcases hcf with ⟨y', S'', e3, h4, h5⟩ | ⟨S'', e3, _⟩
            · rw [ef] at e3
              cases e3
              exact ⟨y, S', rfl, h4, h5⟩
            · rw [ef] at e3; cases e3
        | some e =>
          refine ⟨wi, r', k2, er', ?_⟩
          simp only [evo] at ef
          cases hce : ev G C e r' wi.S with
          | bad => rw [hce] at ef; rcases hcf with ⟨y, S', e3, _⟩ | ⟨S', e3, _⟩ <;> (rw [ef] at e3; cases e3)
          | exc n S' => rw [hce] at ef; rcases hcf with ⟨y, S', e3, _⟩ | ⟨S', e3, _⟩ <;> (rw [ef] at e3; cases e3)
          | ok b S2 =>
            rw [hce] at ef
            simp only [Res.bind] at ef
            cases ht : tru b with
            | none => rw [ht] at ef; rcases hcf with ⟨y, S', e3, _⟩ | ⟨S', e3, _⟩ <;> (rw [ef] at e3; cases e3)
            | some bb =>
              rw [ht] at ef
              refine ⟨bb, ht, fun H3 w3 x3 es3 k3 => ?_⟩
              subst es3
              cases bb with
              | true =>
                refine iteT (fin H3 w3 x3 k3 (er'.ext x3 k2) ?_)
                cases he : ev G C elt r' w3.S with
                | bad => simp only [he] at ef; rcases hcf with ⟨y, S', e3, _⟩ | ⟨S', e3, _⟩ <;> (rw [ef] at e3; cases e3)
                | exc n S' => simp only [he] at ef; rcases hcf with ⟨y, S', e3, _⟩ | ⟨S', e3, _⟩ <;> (rw [ef] at e3; cases e3)
                | ok y S' =>
                  simp only [he] at ef
                  rcases hcf with ⟨y', S'', e3, h4, h5⟩ | ⟨S'', e3, _⟩
                  · rw [ef] at e3
                    cases e3
                    exact ⟨y, S', rfl, h4, h5⟩
                  · rw [ef] at e3; cases e3
              | false =>
                refine iteF ?_
                simp only at ef
                rcases hcf with ⟨y', S'', e3, h4, h5⟩ | ⟨S'', e3, h5⟩
                · rw [ef] at e3; cases e3
                · rw [ef] at e3
                  cases e3
                  have hp3 : H3 p = some (.lst acc) := (x3.keep p _ hp2 nlp).1
                  exact ⟨items.length - (i + 1), by omega, w3, acc, ds, xi2.trans x3, k3, hp3, (ri.ext x2 ki).ext x3 k2, er2.ext x3 k2, hlt, rfl, h5⟩
      · -- the end
        have ei : i = items.length := by omega
        subst ei
        rw [List.drop_length] at hc
        simp only [compL, Res.ok.injEq, PyData.list.injEq] at hc
        obtain ⟨rfl, rfl⟩ := hc
        refine .inl ⟨(its.2 p (.lst acc) hp).stop Hh wi items.length (by have xg := xi.ext hpi nlp; rw [upd_upd] at xg; exact xg) ki (Nat.le_refl _), ?_⟩
        have hZ : ∀ a, w1.Z a → wi.Z a := fun a z => by rw [xi.Z]; exact .inl z
        have kh := hide_wok (Z := w1.Z) ki hpi hzi hZ hzp
        have xh : Ext H1 ({ w1 with S := lock w1.S d } : Wl c) (hide Hh p) ⟨wi.A, wi.S, w1.Z⟩ := by
          refine ⟨xi.A, rfl, fun a u ha hn => ?_, xi.lck⟩
          have e : a ≠ p := ne_of_none ha hp
          obtain ⟨g1, g2⟩ := xi.keep a u e (by rw [upd_ne e]; exact ha) hn
          exact ⟨by rw [hide_ne e]; exact g1, g2⟩
        obtain ⟨xu, ku, mu⟩ := unlock_ok (w := w1) kh d xh
        have rh : RpAll (hide Hh p) ⟨wi.A, wi.S, w1.Z⟩ acc ds := ri.mv (hide_mv hpi hzi hZ)
        have o2 := Out.trans o xu
        have := Out.newL (w := ({ (⟨wi.A, wi.S, w1.Z⟩ : Wl c) with S := unlock w1.S wi.S d } : Wl c)) o2 ku (rh.mv mu) (hide_at (H := Hh) (p := p))
        rw [hide_upd hpi] at this
        exact this
    · exact o.elim

def okIf (nm : Nm) (cx : SC) (cond : Oe) : List Expr → Bool
  | [] => okO nm cx cond none
  | [c'] => okO nm cx cond (some c')
  | _ => false
theorem okE_comp {elt : E} {tg : Tg} {it : MP.Itr} {cond : Oe} {own : List Nat} {cx : SC} {fi : Bool} {elt' tg' it' : Expr} {ifs' : List Expr} {scope : Scope} {pos : Pos} :
    okE nm cx (.comp elt tg it cond own) fi (.ListComp elt' [⟨tg', it', ifs', 0⟩] scope pos) = (okJ nm cx it (isTupE tg') it' && blkC cx.N cx.sc scope (ownOf cx.N own) && okT (blk cx scope) tg tg' && (slots tg).all (fun i => own.contains i) && okIf nm (blk cx scope) cond ifs' && okE nm (blk cx scope) elt false elt') := by
  cases ifs' with
  | nil => rfl
  | cons a l => cases l <;> rfl
/-- the pieces of a comprehension, in its own block -/
theorem comp_parts {elt : E} {tg : Tg} {cond : Oe} {own : List Nat} (he : SndE nm c G C k elt) (hc : SndO nm c G C k cond) {X : Cx} {cx : SC} {W : WX} (ox : XO nm c G C k X cx W) {elt' tg' : Expr} {ifs' : List Expr} {scope : Scope}
    (h1 : okT (blk cx scope) tg tg' = true) (h2 : okIf nm (blk cx scope) cond ifs' = true) (h3 : okE nm (blk cx scope) elt false elt' = true) (s : Shared) (H : Hp) (Ca : Addr) (cl : List (Str × Addr)) (fp : List Addr) :
    PG (X.blk s H scope (compEnvC scope cl Ca X.env) fp) tg' (rdTg c tg) ∧ PTs (X.blk s H scope (compEnvC scope cl Ca X.env) fp) ifs' (rdC c G C cond) ∧ PE (X.blk s H scope (compEnvC scope cl Ca X.env) fp) elt' (rdE c WF (ev G C elt)) := by
  have ob : XO nm c G C k (X.blk s H scope (compEnvC scope cl Ca X.env) fp) (blk cx scope) WF :=
    ⟨ox.N, ox.nd, by show relS scope X.env.scope = relS scope cx.sc; rw [ox.sc], rfl, ox.calm, ox.roomS, ox.tb, takes0⟩
  refine ⟨snd_tg ob tg tg' h1, ?_, he.pe _ _ WF false elt' ob h3⟩
  match ifs', h2 with
  | [], h2 =>
    cases cond with
    | none => exact pts_nil
    | some e => exact Bool.noConfusion (show false = true from h2)
  | [c'], h2 =>
    obtain ⟨e, rfl, pt⟩ := hc.pt _ _ WF c' ob h2
    exact pts_one pt
theorem own_map (N : List Str) (own : List Nat) : (ownOf N own).map (·.2) = own := by
  unfold ownOf
  rw [List.map_map]
  exact List.map_id own
theorem snd_comp {elt : E} {tg : Tg} {it : MP.Itr} {cond : Oe} {own : List Nat} (he : SndE nm c G C k elt) (hi : SndJ nm c G C k it) (hc : SndO nm c G C k cond) : SndE nm c G C k (.comp elt tg it cond own) := by
  refine .of (fun X cx W fi x ox h => ?_) fun cx x h => ?_
  · cases x <;> first | exact Bool.noConfusion (show false = true from h) | skip
    rename_i elt' gens scope pos
    match gens, h with
    | [⟨tg', it', ifs', 0⟩], h =>
      rw [okE_comp] at h
      simp only [Bool.and_eq_true] at h
      obtain ⟨⟨⟨⟨⟨h0, hb⟩, h1⟩, hsl⟩, h2⟩, h3⟩ := h
      obtain ⟨pi, hf⟩ := hi X cx W tg' it' ox h0
      have ok : BlkOk X.N X.env.scope scope (ownOf cx.N own) := by rw [ox.N, ox.sc]; exact blkOk_by hb
      have parts := comp_parts (own := own) he hc ox h1 h2 h3
      have p := pe_lc (pos := pos) ox.calm ox.nd pi ok (fun s H Ca cl fp => (parts s H Ca cl fp).1) (fun s H Ca cl fp => (parts s H Ca cl fp).2.1) (fun s H Ca cl fp => (parts s H Ca cl fp).2.2) (fine_set hf)
      rw [own_map] at p
      exact PE.imp p fun σ H Q hh => comp_rd (fun i hi => by simpa using List.all_eq_true.mp hsl i hi) hh
  · cases x <;> first | exact Bool.noConfusion (show false = true from h) | rfl
/-! ### xs[::-1] -/
theorem snd_rev {a : E} (ha : SndE nm c G C k a) : SndE nm c G C k (.rev a) := by
  refine .of (fun X cx W fi x ox h => ?_) fun cx x h => ?_
  · match x, h with
    | .Subscript a' (.Slice none none (some (.UnaryOp .USub (.Constant (.int 1) _ _) _)) _) _, h =>
      have h1 : okE nm cx a false a' = true := h
      refine PE.imp (pe_revL (ha.pe X cx W false a' ox h1)) fun σ H Q ⟨w, r, kk, er, out⟩ => ?_
      refine ⟨w, r, kk, er, out.bind fun d H1 w1 v x1 k1 r1 o1 => ?_⟩
      unfold revD at o1
      split at o1
      · rename_i xs hx
        obtain ⟨p, us, rfl, h2, h3⟩ := viewL_rp k1 hx r1
        exact ⟨p, us, rfl, SqL.of h2, fun q hq => o1.newL k1 h3.reverse hq⟩
      · exact o1.elim
  · cases x <;> first | exact Bool.noConfusion (show false = true from h) | rfl
end MP
end

section
set_option Elab.async false
set_option linter.all false
set_option maxRecDepth 100000
set_option maxHeartbeats 4000000
set_option autoImplicit false
namespace MP
open PySem L2 PySem.Spec PyProof.Rows
variable {nm : Nm} {c : Cfg} {G : Nat → Option D} {C : Call} {k : Nat}
def rMt (c : Cfg) (W : WX) (σ : L2.St) (m : Meth) : V → List V → Hp → VK → Prop := fun x vs H Q => ∃ w : Wl c, ∃ d ds, Wok H w ∧ Rp H w x d ∧ RpAll H w vs ds ∧ OutE c W σ H w Q (methD w.S m d ds)
theorem MtR.imp {X : Cx} {id : String} {r r' : V → List V → Hp → VK → Prop} (h : MtR X id r) (kk : ∀ x vs H Q, r' x vs H Q → r x vs H Q) : MtR X id r' := fun pins s σ H x xs v us Q I rx rv q => h pins s σ H x xs v us Q I rx rv (kk x xs H Q q)
section
variable {X : Cx} {W : WX} {σ : L2.St}
theorem m_append : MtR X "list.append" (rMt c W σ .append) := by
  refine MtR.imp mt_append ?_
  rintro x vs H Q ⟨w, d, ds, kk, rd, rs, o⟩
  simp only [methD] at o
  split at o
  all_goals try contradiction
  all_goals try (exact o.elim)
  split at o
  · rename_i n e
    have := asRef_eq e
    subst this
    split at o
    · rename_i xs hx
      split at o
      · rename_i hb
        obtain ⟨a, rfl, ha⟩ := rd.ref_inv
        obtain ⟨v, rfl, rv⟩ := rs.one
        obtain ⟨us, h1, h2⟩ := kk.obj n a _ ha hx
        have rr := h2.append (.cons rv .nil)
        exact ⟨a, us, v, rfl, rfl, h1, by rw [h2.length, ← big_eq]; exact hb, o _ _ .non (store_ext kk ha hx rfl (fun _ => by simp)) rfl (store_wok kk ha hx rfl rr) .non⟩
      · exact o.elim
    · exact o.elim
  · exact o.elim
theorem m_pop : MtR X "list.pop" (rMt c W σ .pop) := by
  refine MtR.imp mt_pop ?_
  rintro x vs H Q ⟨w, d, ds, kk, rd, rs, o⟩
  simp only [methD] at o
  split at o
  all_goals try contradiction
  all_goals try (exact o.elim)
  split at o
  · rename_i n e
    have := asRef_eq e
    subst this
    split at o
    · rename_i xs hx
      split at o
      · rename_i y hy
        obtain ⟨a, rfl, ha⟩ := rd.ref_inv
        cases rs
        obtain ⟨us, h1, h2⟩ := kk.obj n a _ ha hx
        rw [List.getLast?_eq_getElem?] at hy
        obtain ⟨v, hv, rv⟩ := h2.get hy
        have rr : RpAll H w us.dropLast xs.dropLast := by
          rw [List.dropLast_eq_take, List.dropLast_eq_take, h2.length]
          exact h2.take _
        refine ⟨a, us, v, rfl, rfl, h1, by rw [h2.length]; exact hv, o _ _ v (store_ext kk ha hx rfl (fun _ => by simp)) rfl (store_wok kk ha hx rfl rr) (rv.mv (store_mv kk ha hx rfl))⟩
      · exact o.elim
    · exact o.elim
  · exact o.elim
theorem strs_rp {H : Hp} {w : Wl c} : ∀ {ds : List D} {vs : List V} {zs : List Str}, mapO strOf ds = some zs → RpAll H w vs ds → vs = zs.map V.str
  | [], _, _, h, r => by cases h; cases r; rfl
  | d :: ds, _, _, h, r => by
    unfold mapO at h
    split at h
    · rename_i y hy
      split at h
      · rename_i zs hz
        cases h
        cases r with
        | cons r1 r2 =>
          rw [List.map_cons, strs_rp hz r2]
          cases d <;> simp [strOf] at hy
          subst hy
          rw [r1.str_inv]
      · cases h
    · cases h
theorem m_join : MtR X "str.join" (rMt c W σ .join) := by
  refine MtR.imp mt_join ?_
  rintro x vs H Q ⟨w, d, ds, kk, rd, rs, o⟩
  simp only [methD] at o
  split at o
  all_goals try contradiction
  all_goals try (exact o.elim)
  split at o
  · rename_i z zs h1 h2
    obtain ⟨hb, o⟩ := o.okI
    simp only [Option.bind_eq_some_iff] at h2
    obtain ⟨ys, hy, hz⟩ := h2
    obtain ⟨v, rfl, rv⟩ := rs.one
    obtain ⟨a, us, rfl, g1, g2⟩ := viewL_rp kk hy rv
    have e := strs_rp hz g2
    subst e
    cases d <;> simp only [strOf, Option.some.injEq, reduceCtorEq] at h1
    subst h1
    refine ⟨_, a, zs, rd.str_inv, rfl, .inl (SqL.of g1), ?_, o.valE kk (.str _)⟩
    have hb := of_decide_eq_true hb
    simp only [big] at hb
    rw [Nat.mul_comm]
    exact hb
  · exact o.elim
theorem m_split : MtR X "str.split" (rMt c W σ .split) := by
  refine MtR.imp mt_split ?_
  rintro x vs H Q ⟨w, d, ds, kk, rd, rs, o⟩
  simp only [methD] at o
  split at o
  all_goals try contradiction
  all_goals try (exact o.elim)
  split at o
  · obtain ⟨hb, o⟩ := o.okI
    simp only [Bool.and_eq_true, decide_eq_true_eq] at hb
    obtain ⟨v, rfl, rv⟩ := rs.one
    refine ⟨_, _, rd.str_inv, by rw [rv.str_inv], ?_, by rw [← big_eq]; exact hb.2, fun p hp => ?_⟩
    · cases e : (_ : Nat) == 0 with
      | false => rfl
      | true => simp at e; omega
    · refine o.newL kk ?_ hp
      generalize Txt.split _ _ = l
      induction l with
      | nil => exact .nil
      | cons y ys ih => exact .cons (.str y) ih
  · exact o.elim
/-- what a look for an item leans on -/
theorem seek {pins : List (Addr × Obj)} {s : Shared} {σ' : L2.St} {H : Hp} {w : Wl c} {zs : List V} {xs : List D} {v1 : V} {x : D} {u : Value} {its : List Value} (I : Inv X pins σ' H s) (h2 : RpAll H w zs xs) (rv2 : Vals zs its) (r1 : Rp H w v1 x) (ru : RelV v1 u) (hb : (xs.all pure8 && pure8 x) = true) :
    ∃ as bs, ReadsAll s.heap its.toArray.toList xs as ∧ Reads s.heap u x bs ∧ PyData.plainAll xs = true ∧ x.plain = true ∧ PyData.depthAll xs ≤ 8 := by
  simp only [Bool.and_eq_true] at hb
  obtain ⟨p1, p2⟩ := pure8_all hb.1
  have hx := hb.2
  simp only [pure8, Bool.and_eq_true, decide_eq_true_eq] at hx
  obtain ⟨as, hr⟩ := Dp.readsAll I xs zs its (pl_dpAll xs p1 h2) rv2
  obtain ⟨bs, hrx⟩ := dp_reads I (pl_dp (K := X.K) x hx.1 r1) ru
  exact ⟨as, bs, by simpa using hr, hrx, p1, hx.1, p2⟩
theorem m_count (hu : X.A.units + 64 < cLine) : MtR X "list.count" (rMt c W σ .count) := by
  intro pins s σ' H x vs v us Q I rx rv hh
  obtain ⟨w, d, ds, kk, rd, rs, o⟩ := hh
  simp only [methD] at o
  split at o
  all_goals try contradiction
  all_goals try (exact o.elim)
  split at o
  · rename_i xs hx
    obtain ⟨hb, o⟩ := o.okI
    obtain ⟨a, zs, rfl, h1, h2⟩ := viewL_rp kk hx rd
    obtain ⟨v1, rfl, r1⟩ := rs.one
    cases rx
    obtain ⟨u, rfl, ru⟩ := vals1 rv
    obtain ⟨its, rv2, ht, _⟩ := I.list (SqL.of (K := X.K) h1)
    obtain ⟨as, bs, hr, hrx, p1, p3, p2⟩ := seek I h2 rv2 r1 ru hb
    exact SeqAt.count_list_data ht.isList hr hrx p1 p3 (by omega) ⟨.int _, H, I.tok _, ⟨_, rfl⟩, o.valE kk (.int _)⟩
  · exact o.elim
theorem m_index (hu : X.A.units + 64 < cLine) : MtR X "list.index" (rMt c W σ .index) := by
  intro pins s σ' H x vs v us Q I rx rv hh
  obtain ⟨w, d, ds, kk, rd, rs, o⟩ := hh
  simp only [methD] at o
  split at o
  all_goals try contradiction
  all_goals try (exact o.elim)
  split at o
  · rename_i xs hx
    split at o
    · rename_i hb
      split at o
      · rename_i j hj
        obtain ⟨a, zs, rfl, h1, h2⟩ := viewL_rp kk hx rd
        obtain ⟨v1, rfl, r1⟩ := rs.one
        cases rx
        obtain ⟨u, rfl, ru⟩ := vals1 rv
        obtain ⟨z, its, n, rv2, hl, e⟩ := I.lstM h1
        obtain ⟨as, bs, hr, hrx, p1, p3, p2⟩ := seek I h2 rv2 r1 ru hb
        obtain ⟨g1, g2, g3⟩ := SeqAt.hit_at hr p1 hj
        have hz : (j : Int) < 2 ^ 63 - 1 := by
          rw [List.size_toArray] at g1
          rw [sizeLine_eq] at z
          omega
        exact call_meets PySem.F.slot_list_index ⟨_, e, rfl⟩ PySem.F.entry_list_index (PySem.F.args_list_index_2 _ _) (SeqAt.list_indexAt a its.toArray n none #[] u _ j g1 hz g2 g3) ⟨e, SeqAt.items_plain hr hrx p1 p3 (by omega), .int _, H, I.tok _, ⟨_, rfl⟩, o.valE kk (.int _)⟩
      · exact o.elim
    · exact o.elim
  · exact o.elim
theorem RpAll.eraseIdx {H : Hp} {w : Wl c} : ∀ {vs : List V} {ds : List D} (n : Nat), RpAll H w vs ds → RpAll H w (vs.eraseIdx n) (ds.eraseIdx n)
  | _, _, _, .nil => .nil
  | _, _, 0, .cons _ t => t
  | _, _, n + 1, .cons h t => .cons h (RpAll.eraseIdx n t)
theorem m_remove (hu : X.A.units + 64 < cLine) : MtR X "list.remove" (rMt c W σ .remove) := by
  intro pins s σ' H x vs v us Q I rx rv hh
  obtain ⟨w, d, ds, kk, rd, rs, o⟩ := hh
  simp only [methD] at o
  split at o
  all_goals try contradiction
  all_goals try (exact o.elim)
  split at o
  · rename_i m em
    have := asRef_eq em
    subst this
    split at o
    · rename_i xs hx
      split at o
      · rename_i hb
        split at o
        · rename_i j hj
          obtain ⟨a, rfl, ha⟩ := rd.ref_inv
          obtain ⟨v1, rfl, r1⟩ := rs.one
          cases rx
          obtain ⟨u, rfl, ru⟩ := vals1 rv
          obtain ⟨zs, h1, h2⟩ := kk.obj m a _ ha hx
          obtain ⟨z, its, n, rv2, hl, e⟩ := I.lstM h1
          obtain ⟨as, bs, hr, hrx, p1, p3, p2⟩ := seek I h2 rv2 r1 ru hb
          refine SeqAt.remove_list_data ⟨_, e, rfl, n, rfl⟩ hr hrx p1 p3 (by omega) hj (by rw [List.size_toArray]; omega) ⟨.non, upd H a (.lst (zs.eraseIdx j)), I.lset (its' := its.eraseIdx j) h1 e (by simp) (rv2.eraseIdx j) ?_, rfl, ?_⟩
          · have := List.length_eraseIdx_le zs j
            omega
          · exact o _ _ .non (store_ext kk ha hx rfl (fun _ => by simp)) rfl (store_wok kk ha hx rfl (h2.eraseIdx j)) .non
        · exact o.elim
      · exact o.elim
    · exact o.elim
  · exact o.elim
end
theorem base_ok {o : Expr} {f : Str} {env : PySem.Env} {whole : Sem Value} (h : baseB o = true) : attributeBase o f env whole = whole := by
  cases o <;> first | rfl | skip
  rename_i fe as kws pos
  cases fe <;> first | rfl | skip
  cases as <;> first | rfl | skip
  cases kws <;> first | rfl | exact Bool.noConfusion (show false = true from h)
theorem snd_meth (m : Meth) {o : E} {es : Es} (ho : SndE nm c G C k o) (hs : SndEs nm c G C k es) : SndE nm c G C k (.meth m o es) := by
  refine .of (fun X cx W fi x ox h => ?_) fun cx x h => ?_
  · cases x <;> first | exact Bool.noConfusion (show false = true from h) | skip
    rename_i fe xs kws pos
    cases fe <;> first | exact Bool.noConfusion (show false = true from h) | skip
    rename_i o' y ap
    cases kws with
    | cons _ _ => exact Bool.noConfusion (show false = true from h)
    | nil =>
      simp only [okE, Bool.and_eq_true, decide_eq_true_eq] at h
      obtain ⟨⟨⟨⟨⟨⟨⟨hf, hm, har⟩, rfl⟩, hline⟩, hbase⟩, h30⟩, h1⟩, h2⟩ := h
      have := okE_fi hf
      subst this
      have hfi := okEs_fine (env := X.env) h2
      have po := ho.pe X cx W false o' ox h1
      have pa := hs.pa X cx W xs ox h2
      refine ⟨fun pins s σ H Q I hh => ?_⟩
      obtain ⟨w, r, kk, er, out⟩ := hh
      -- the receiver's type, then the arguments
      have rd : ∀ (T : String), (T = if isStrM m then "str" else "list") → rdE c W (ev G C o) σ H fun x H1 => tyV X.K T x H1 ∧ rdA c W (evs G C es) σ H1 fun vs H2 => rMt c W σ m x vs H2 Q := by
        intro T eT
        subst eT
        refine ⟨w, r, kk, er, out.bind fun d H1 w1 v x1 k1 r1 o1 => ?_⟩
        split at o1
        · rename_i hr
          refine ⟨?_, w1, r, k1, er.ext x1 kk, OutA.bind o1 fun ds H2 w2 vs x2 k2 r2 o2 => ⟨w2, d, ds, k2, r1.ext x2 k1, r2, o2⟩⟩
          unfold rcv at hr
          split at hr
          · rename_i hsm
            rw [if_pos hsm]
            cases d <;> simp only [strOf, Option.isSome_none, Bool.false_eq_true] at hr
            rw [r1.str_inv]
            rfl
          · rename_i hsm
            rw [if_neg hsm]
            obtain ⟨ys, hy⟩ := Option.isSome_iff_exists.mp hr
            obtain ⟨a, us, rfl, g1, g2⟩ := viewL_rp k1 hy r1
            exact .inl ⟨rfl, us, SqL.of g1⟩
        · exact o1.elim
      have hfew : ∀ z zs, xs = z :: zs → ((backTo pos (starEach (z :: zs) X.env)).all (fun x => !x.1) && (backToKw pos (keywordEach [] X.env)).all (fun x => x.1.isSome) && decide ((z :: zs).length + ([] : List Keyword).length + (if ([] : List Keyword).isEmpty then 0 else 1) < 30)) = true := by
        intro z zs e
        subst e
        rw [back_all hfi]
        simp only [keywordEach, backToKw, List.map_nil, List.all_nil, Bool.true_and, decide_eq_true_eq]
        simpa using h30
      cases xs with
      | nil =>
        cases es with
        | cons _ _ => exact Bool.noConfusion (show false = true from h2)
        | nil =>
          cases m <;> first | exact Bool.noConfusion (show false = true from hm) | exact Bool.noConfusion (show false = true from har) | skip
          refine (pe_bm0 PySem.F.plainAttrs_list PySem.F.slot_list_pop PySem.F.type_list_pop (m_pop (c := c) (W := W) (σ := σ)) po (base_ok hbase) hline).run pins s σ H Q I ?_
          refine ⟨w, r, kk, er, out.bind fun d H1 w1 v x1 k1 r1 o1 => ?_⟩
          split at o1
          · rename_i hr
            obtain ⟨ys, hy⟩ := Option.isSome_iff_exists.mp (show (viewL w1.S d).isSome = true from hr)
            obtain ⟨a, us, rfl, g1, g2⟩ := viewL_rp k1 hy r1
            exact ⟨.inl ⟨rfl, us, SqL.of g1⟩, w1, d, [], k1, r1, .nil, o1⟩
          · exact o1.elim
      | cons z zs =>
        have hst := fine_star (env := X.env) (xs := zs) (hfi z (List.mem_cons_self ..))
        have hpl := back_any (pos := pos) (env := X.env) (xs := zs) fun x hx => hfi x (List.mem_cons_of_mem _ hx)
        cases m <;> first | exact Bool.noConfusion (show false = true from hm) | exact Bool.noConfusion (show false = true from har) | skip
        · exact (pe_bm PySem.F.plainAttrs_list PySem.F.slot_list_append PySem.F.type_list_append (m_append (c := c) (W := W) (σ := σ)) po pa (base_ok hbase) (hfew z zs rfl) hline hst hpl).run pins s σ H Q I (rd "list" rfl)
        · exact (pe_bm PySem.F.plainAttrs_list PySem.F.slot_list_remove PySem.F.type_list_remove (m_remove (c := c) (W := W) (σ := σ) ox.room.units) po pa (base_ok hbase) (hfew z zs rfl) hline hst hpl).run pins s σ H Q I (rd "list" rfl)
        · exact (pe_bm PySem.F.plainAttrs_list PySem.F.slot_list_count PySem.F.type_list_count (m_count (c := c) (W := W) (σ := σ) ox.room.units) po pa (base_ok hbase) (hfew z zs rfl) hline hst hpl).run pins s σ H Q I (rd "list" rfl)
        · exact (pe_bm PySem.F.plainAttrs_list PySem.F.slot_list_index PySem.F.type_list_index (m_index (c := c) (W := W) (σ := σ) ox.room.units) po pa (base_ok hbase) (hfew z zs rfl) hline hst hpl).run pins s σ H Q I (rd "list" rfl)
        · exact (pe_bm PySem.F.plainAttrs_str PySem.F.slot_str_join PySem.F.type_str_join (m_join (c := c) (W := W) (σ := σ)) po pa (base_ok hbase) (hfew z zs rfl) hline hst hpl).run pins s σ H Q I (rd "str" rfl)
        · exact (pe_bm PySem.F.plainAttrs_str PySem.F.slot_str_split PySem.F.type_str_split (m_split (c := c) (W := W) (σ := σ)) po pa (base_ok hbase) (hfew z zs rfl) hline hst hpl).run pins s σ H Q I (rd "str" rfl)
  · cases x <;> first | exact Bool.noConfusion (show false = true from h) | rfl
end MP
end

section
set_option Elab.async false
set_option linter.all false
set_option maxRecDepth 100000
set_option maxHeartbeats 4000000
set_option autoImplicit false
namespace MP
open PySem L2 PySem.Spec PyProof.Rows
variable {nm : Nm} {c : Cfg} {G : Nat → Option D} {C : Call} {k : Nat}
theorem isIns_inv {S : Store} {d : D} (h : isIns S d = true) : ∃ n j fs, d = rf n ∧ S[n]? = some (.ins j fs) := by
  unfold isIns at h
  split at h
  · rename_i n e
    have := asRef_eq e
    subst this
    split at h
    · rename_i j fs q
      exact ⟨n, j, fs, rfl, q⟩
    · cases h
  · cases h
section
variable {H : Hp} {w : Wl c}
theorem attN_inj {m n : Nat} (h : attN m = attN n) (hm : m < 2) (hn : n < 2) : m = n := by
  match m, n, hm, hn, h with
  | 0, 0, _, _, _ => rfl
  | 1, 1, _, _, _ => rfl
  | 0, 1, _, _, h => exact absurd h (by decide)
  | 1, 0, _, _, h => exact absurd h (by decide)
theorem InR.look {n : Nat} (hn : n < 2) : ∀ {gs : List (Str × V)} {fs : List (Nat × D)} {d : D}, InR H w gs fs → fs.lookup n = some d → ∃ v, gs.lookup (attN n) = some v ∧ Rp H w v d
  | _, _, d, .nil, h => by cases h
  | _, _, d, .cons (n := m) (v := v) (xs := gs) (ys := fs) hm r t, h => by
    rw [List.lookup_cons] at h
    rw [List.lookup_cons]
    by_cases e : n = m
    · subst e
      simp only [beq_self_eq_true] at h ⊢
      cases h
      exact ⟨v, rfl, r⟩
    · have e1 : (n == m) = false := by simpa using e
      have e2 : (attN n == attN m) = false := by
        rw [beq_eq_false_iff_ne]
        exact fun z => e (attN_inj z hn hm)
      rw [e1] at h
      rw [e2]
      exact t.look hn h
theorem InR.off {m : Str} (h1 : m ≠ "rows") (h2 : m ≠ "past") : ∀ {gs : List (Str × V)} {fs : List (Nat × D)}, InR H w gs fs → gs.lookup m = none
  | _, _, .nil => rfl
  | _, _, .cons (n := n) hn r t => by
    rw [List.lookup_cons]
    have e : (m == attN n) = false := by
      rw [beq_eq_false_iff_ne]
      match n, hn with
      | 0, _ => exact h1
      | 1, _ => exact h2
    rw [e]
    exact t.off h1 h2
theorem InR.len : ∀ {gs : List (Str × V)} {fs : List (Nat × D)}, InR H w gs fs → gs.length = fs.length
  | _, _, .nil => rfl
  | _, _, .cons _ _ t => by rw [List.length_cons, List.length_cons, t.len]
theorem InR.put {n : Nat} (hn : n < 2) {v : V} {d : D} (r : Rp H w v d) : ∀ {gs : List (Str × V)} {fs : List (Nat × D)}, InR H w gs fs → InR H w (putF (attN n) v gs) (setAttr.putA fs n d)
  | _, _, .nil => by
    unfold setAttr.putA
    exact .cons hn r .nil
  | _, _, .cons (n := m) (v := v') (xs := gs) (ys := fs) hm r' t => by
    unfold setAttr.putA putF
    by_cases e : m = n
    · subst e
      rw [if_pos rfl, if_pos rfl]
      exact .cons hm r t
    · rw [if_neg e, if_neg (fun z => e (attN_inj z hm hn))]
      exact .cons hm r' (t.put hn r)
end
/-! ### o.f -/
theorem snd_attr (f : Nat) {o : E} (ho : SndE nm c G C k o) : SndE nm c G C k (.attr o f) := by
  refine .of (fun X cx W fi x ox h => ?_) fun cx x h => ?_
  · cases x <;> first | exact Bool.noConfusion (show false = true from h) | skip
    rename_i o' y pos
    simp only [okE, Bool.and_eq_true, decide_eq_true_eq] at h
    obtain ⟨⟨⟨⟨⟨hf, hl⟩, h2⟩, rfl⟩, hb⟩, h1⟩ := h
    have := okE_fi hf
    subst this
    obtain ⟨l1, l2, l3, l4⟩ := ox.tb.lg hl
    have na : NoAttr X.K c.lc (attN f) := by
      match f, h2 with
      | 0, _ => exact l2
      | 1, _ => exact l3
    refine PE.imp (pe_fld (ho.pe X cx W false o' ox h1) (base_ok hb)) fun σ H Q ⟨w, r, kk, er, out⟩ => ?_
    refine ⟨w, r, kk, er, out.bind fun d H1 w1 v x1 k1 r1 o1 => ?_⟩
    obtain ⟨z, hz, o2⟩ := o1.ofO
    unfold attrD at hz
    split at hz
    · rename_i n e
      have := asRef_eq e
      subst this
      obtain ⟨a, rfl, ha⟩ := r1.ref_inv
      split at hz
      · rename_i j fs q
        obtain ⟨dx, gs, e1, e2⟩ := k1.obj n a _ ha q
        obtain ⟨u, e3, e4⟩ := e2.look h2 hz
        exact ⟨a, c.lc, dx, gs, u, rfl, e1, l1, na, e3, o2.valE k1 e4⟩
      · cases hz
    · cases hz
  · cases x <;> first | exact Bool.noConfusion (show false = true from h) | rfl
/-! ### o.m(..) -/
theorem meth_form {env : PySem.Env} {pos : Pos} {es : List Expr} (hfi : ∀ x ∈ es, fine x = true) (h30 : es.length < 30) : methodCallForm (es.length + ([] : List Keyword).length) (backTo pos (starEach es env)) (backToKw pos (keywordEach [] env)) = true := by
  unfold methodCallForm
  rw [back_all hfi]
  simp only [keywordEach, backToKw, List.map_nil, List.all_nil, Bool.true_and, decide_eq_true_eq]
  simpa using h30
theorem pe_methC {X : Cx} {f : Addr} {m y : Str} {op pos apos : Pos} {ta : TE} {es : List Expr} {R : Addr → L2.St → Hp → VK → Prop} (he : PE X (.Name y op) ta) (cl : Cls X.K c.lc) (hm : L2.Meth X.K c.lc m f) (hfi : ∀ x ∈ es, fine x = true) (h30 : es.length < 30) (hline : (apos.endLine == pos.line) = true)
    (hfin : ∀ (pins : List (Addr × Obj)) (s : Shared) (σ : L2.St) (H : Hp) (Q : VK) (a : Addr), Inv X pins σ H s → R a σ H Q → wpAny (model X.prog X.w) X.A (callWith pos (.ref f) [.ref a] (backTo pos (starEach es X.env)) (backToKw pos (keywordEach [] X.env))) (EP X pins σ Q) X.xe s) :
    PE X (.Call (.Attribute (.Name y op) m apos) es [] pos) (fun σ H Q => ta σ H fun x H1 => ∃ a dx fs, x = .ref a ∧ H1 a = some (.ins c.lc dx fs) ∧ fs.lookup m = none ∧ R a σ H1 Q) := by
  refine ⟨fun pins s σ H Q I h => ?_⟩
  have hpos : methodCallPos true (.Name y op) X.env apos pos = pure pos := by unfold methodCallPos; simp [hline]
  rw [arm_eval_Call, base_ok (o := .Name y op) rfl]
  refine wpAny_bind (thn (he.run pins s σ H _ I h) fun u s1 ⟨x, H1, I1, rx, a, dx, fs, ex, ea, l, q⟩ => wpAny_bind (wpAny_standAt ?_))
  subst ex
  obtain rfl : u = Value.ref a := rx
  unfold methodCall
  rw [meth_form hfi h30]
  refine wpAny_bind (wpAny_holding (getmeth_ok I1 ea cl hm l (wpAny_bind (wpAny_of_eq hpos ?_))))
  exact hfin pins s1 σ H1 Q a I1 q
/-- how the arguments go on -/
theorem meth_args {X : Cx} {W : WX} {f : Addr} {fd : FuncData} {ps : List Str} {sp : Sp} {m : Str} {pos : Pos} {z : Expr} {zs : List Expr} {t : TA} (hm : L2.Meth X.K c.lc m f) (F : FnOk X.prog X.w X.K X.mg X.base (L2.CX X.prog X.w) k f fd ps sp) (hr : Room k X.A) (hb : Binds X.K fd ps []) (tk : Takes X W) (ha : PA X (z :: zs) t) (hfi : ∀ x ∈ z :: zs, fine x = true) (pins : List (Addr × Obj)) (s : Shared) (σ : L2.St) (H : Hp) (Q : VK) (a : Addr) (I : Inv X pins σ H s) (q : t σ H fun vs H2 => sp (.ref a :: vs) H2 Q (WE W σ)) :
    wpAny (model X.prog X.w) X.A (callWith pos (.ref f) [.ref a] (backTo pos (starEach (z :: zs) X.env)) (backToKw pos (keywordEach [] X.env))) (EP X pins σ Q) X.xe s := by
  have hst := fine_star (env := X.env) (xs := zs) (hfi z (List.mem_cons_self ..))
  refine PySem.W.callWith_K (first := [.ref a]) (h₀ := X.base) I.ok.mod.kin hm.kp (thn (ha.run pos pins s σ H _ I q) fun us s2 ⟨vs, H2, I2, r, q2⟩ => ⟨I2.kIn, ?_⟩) hst (back_any fun x hx => hfi x (List.mem_cons_of_mem _ hx))
  exact run_fnS (E := WE W) (us := .ref a :: us) (vs := .ref a :: vs) F hr hb (passAt tk σ) I2 (.cons rfl r) q2
theorem snd_umeth (f : Nat) {o : E} {es : Es} (ho : SndE nm c G C k o) (hs : SndEs nm c G C k es) : SndE nm c G C k (.umeth f o es) := by
  refine .of (fun X cx W fi x ox h => ?_) fun cx x h => ?_
  · cases x <;> first | exact Bool.noConfusion (show false = true from h) | skip
    rename_i fe xs kws pos
    cases fe <;> first | exact Bool.noConfusion (show false = true from h) | skip
    rename_i oe y ap
    cases oe <;> first | exact Bool.noConfusion (show false = true from h) | skip
    rename_i o' op
    cases kws with
    | cons _ _ => exact Bool.noConfusion (show false = true from h)
    | nil =>
      simp only [okE, Bool.and_eq_true, decide_eq_true_eq] at h
      obtain ⟨⟨⟨⟨hf, ⟨hl, hline⟩, h30⟩, hm⟩, h1⟩, h2⟩ := h
      have := okE_fi hf
      subst this
      split at hm
      · rename_i m n hn
        simp only [Bool.and_eq_true, decide_eq_true_eq, Bool.not_eq_true', beq_eq_false_iff_ne] at hm
        obtain ⟨⟨⟨rfl, hlen⟩, m1⟩, m2⟩ := hm
        obtain ⟨l1, l2, l3, l4⟩ := ox.tb.lg hl
        obtain ⟨a, fd, ps, hps, hme, _, hb, F⟩ := ox.tb.mt f y n hn
        have look : ∀ {d : D} {v : V} {H1 : Hp} {w1 : Wl c}, Wok H1 w1 → Rp H1 w1 v d → isIns w1.S d = true → ∃ b dx gs, v = .ref b ∧ H1 b = some (.ins c.lc dx gs) ∧ gs.lookup y = none := by
          intro d v H1 w1 k1 r1 hi
          obtain ⟨j, ci, fs, rfl, q⟩ := isIns_inv hi
          obtain ⟨b, rfl, hb'⟩ := r1.ref_inv
          obtain ⟨dx, gs, e1, e2⟩ := k1.obj j b _ hb' q
          exact ⟨b, dx, gs, rfl, e1, e2.off m1 m2⟩
        cases xs with
        | nil =>
          refine PE.imp (pe_methC (R := fun a σ H Q => spOf c (C f) [.ref a] H Q (WE W σ)) (ho.pe X cx W false _ ox h1) l1 hme (okEs_fine (env := X.env) h2) h30 hline fun pins s σ H Q a I q => ?_) fun σ H Q ⟨w, r, kk, er, out⟩ => ?_
          · exact PySem.W.callWith_K0 (first := [.ref a]) I.kIn hme.kp (run_fnS (E := WE W) (us := [.ref a]) (vs := [.ref a]) F ox.room hb (passAt ox.tk σ) I (.cons rfl .nil) q)
          · refine ⟨w, r, kk, er, out.bind fun d H1 w1 v x1 k1 r1 o1 => ?_⟩
            split at o1
            · rename_i hi
              obtain ⟨b, dx, gs, rfl, e1, e2⟩ := look k1 r1 hi
              cases es with
              | cons _ _ => exact Bool.noConfusion (show false = true from h2)
              | nil => exact ⟨b, dx, gs, rfl, e1, e2, w1, [d], k1, .cons r1 .nil, out_sw o1⟩
            · exact o1.elim
        | cons z zs =>
          refine PE.imp (pe_methC (ho.pe X cx W false _ ox h1) l1 hme (okEs_fine (env := X.env) h2) h30 hline (meth_args hme F ox.room hb ox.tk (hs.pa X cx W (z :: zs) ox h2) (okEs_fine (env := X.env) h2))) fun σ H Q ⟨w, r, kk, er, out⟩ => ?_
          refine ⟨w, r, kk, er, out.bind fun d H1 w1 v x1 k1 r1 o1 => ?_⟩
          split at o1
          · rename_i hi
            obtain ⟨b, dx, gs, rfl, e1, e2⟩ := look k1 r1 hi
            refine ⟨b, dx, gs, rfl, e1, e2, w1, r, k1, er.ext x1 kk, OutA.bind o1 fun ds H2 w2 vs x2 k2 r2 o2 => ?_⟩
            exact ⟨w2, _ :: ds, k2, .cons (r1.ext x2 k1) r2, out_sw o2⟩
          · exact o1.elim
      · cases hm
  · cases x <;> first | exact Bool.noConfusion (show false = true from h) | rfl
/-! ### Ledger(..) -/
theorem wok_ins {H : Hp} {w : Wl c} (k : Wok H w) {x dx : Addr} (hx : H x = none) (hd : H dx = none) (ne : dx ≠ x) {n : Nat} : Ext H w (upd (upd H dx (.own x)) x (.ins c.lc dx [])) (⟨w.A ++ [x], w.S ++ [.ins n []], w.Z⟩ : Wl c) ∧ Wok (upd (upd H dx (.own x)) x (.ins c.lc dx [])) (⟨w.A ++ [x], w.S ++ [.ins n []], w.Z⟩ : Wl c) := by
  have k1 : Wok (upd H dx (.own x)) w := k.new hd
  have hx1 : (upd H dx (.own x)) x = none := by rw [upd_ne (Ne.symm ne)]; exact hx
  exact ⟨(ext_new hd).trans (ext_add k1 hx1), wok_addO k1 hx1 ⟨dx, [], upd_same, .nil⟩⟩
theorem pe_makeC {X : Cx} {W : WX} {Ca f : Addr} {fd : FuncData} {ps : List Str} {sp : Sp} {x : Str} {p pos : Pos} {z : Expr} {zs : List Expr} {t : TA} (M : Mk X.K Ca f) (F : FnOk X.prog X.w X.K X.mg X.base (L2.CX X.prog X.w) k f fd ps sp) (hr : Room (k + 1) X.A) (hg : Gl X x) (hm : X.mg x = some (.ref Ca)) (hb : Binds X.K fd ps []) (tk : Takes X W) (ha : PA X (z :: zs) t) (hfi : ∀ x ∈ z :: zs, fine x = true) (hdb : (x == ("__debug__" : Str)) = false) :
    PE X (.Call (.Name x p) (z :: zs) [] pos) (fun σ H Q => t σ H fun vs H1 => ∀ a dx, H1 a = none → H1 dx = none → dx ≠ a → sp (.ref a :: vs) (upd (upd H1 dx (.own a)) a (.ins Ca dx [])) (fun v H2 => v = .non ∧ Q (.ref a) H2) (WE W σ)) := by
  refine ⟨fun pins s σ H Q I h => wpAny_Call_Name_kw (ld_glob I hg hm ?_ hdb)⟩
  have hst := fine_star (env := X.env) (xs := zs) (hfi z (List.mem_cons_self ..))
  refine PySem.W.callWith_K (h₀ := X.base) I.ok.mod.kin M.kp (thn (ha.run pos pins s σ H _ I h) fun us s1 ⟨vs, H1, I1, r, q⟩ => ⟨I1.kIn, ?_⟩) hst (back_any fun x hx => hfi x (List.mem_cons_of_mem _ hx))
  have hq := q (s1.heap.objs.size + 1) s1.heap.objs.size (I1.hok.fresh (Nat.le_succ _)) (I1.hok.fresh (Nat.le_refl _)) (Nat.ne_of_lt (Nat.lt_succ_self _))
  have J := Inv.made (C := Ca) I1
  have rr : Vals (V.ref (s1.heap.objs.size + 1) :: vs) (Value.ref (s1.heap.objs.size + 1) :: us) := .cons rfl r
  have bb := hb { s1 with heap := _ } (Value.ref (s1.heap.objs.size + 1) :: us) J.kIn (by rw [List.append_nil, ← rr.length]; exact F.len _ _ _ _ hq)
  rw [List.append_nil] at bb
  refine wpAny_call (make_map (f := f) I1.kIn M.makes M.init (beq_iff_eq.mp M.fn) (codeAny_mono (F.run _ X.stack _ _ ⟨_ :: us, []⟩ _ _ _ (WE W σ) (hr.make Ca us []) (J.env0.make Ca us []) bb rr hq) fun r s' w' => ?_))
  rcases r with e | fl
  · exact passAt tk σ pins _ _ e s' J w'
  · cases fl with
    | ret u =>
      obtain ⟨v, H', K1, rv, ev, q3⟩ := J.after w'
      subst ev
      exact ⟨rv, ⟨V.ref (s1.heap.objs.size + 1), H', K1, rfl, q3⟩⟩
    | next => exact False.elim w'
    | brk => exact False.elim w'
    | cont => exact False.elim w'
theorem snd_mk (ci f : Nat) {es : Es} (hs : SndEs nm c G C k es) : SndE nm c G C k (.mk ci f es) := by
  refine .of (fun X cx W fi x ox h => ?_) fun cx x h => ?_
  · cases x <;> first | exact Bool.noConfusion (show false = true from h) | skip
    rename_i fe xs kws pos
    cases fe <;> first | exact Bool.noConfusion (show false = true from h) | skip
    rename_i y p
    cases kws with
    | cons _ _ => exact Bool.noConfusion (show false = true from h)
    | nil =>
      simp only [okE, Bool.and_eq_true, decide_eq_true_eq] at h
      obtain ⟨⟨⟨⟨⟨⟨hf, hl⟩, rfl⟩, hg⟩, hm⟩, hn⟩, ha⟩ := h
      have := okE_fi hf
      subst this
      split at hm
      · rename_i m n hmt
        simp only [Bool.and_eq_true, decide_eq_true_eq] at hm
        obtain ⟨rfl, hlen⟩ := hm
        obtain ⟨l1, l2, l3, l4⟩ := ox.tb.lg hl
        obtain ⟨a, fd, ps, hps, hme, hmk, hb, F⟩ := ox.tb.mt f _ n hmt
        cases xs with
        | nil => simp at hn
        | cons z zs =>
          refine PE.imp (pe_makeC (hmk rfl) F ox.roomS (gl_of ox.sc hg) l4 hb ox.tk (hs.pa X cx W (z :: zs) ox ha) (okEs_fine (env := X.env) ha) (by decide)) fun σ H Q ⟨w, r, kk, er, out⟩ => ?_
          refine ⟨w, r, kk, er, OutA.bind out fun ds H1 w1 vs x1 k1 r1 o1 => ?_⟩
          intro b dx hbn hdn hne
          obtain ⟨x2, k2⟩ := wok_ins (n := ci) k1 hbn hdn hne
          refine ⟨_, rf w1.S.length :: ds, k2, .cons (.ref ?_) (r1.ext x2 k1), ?_⟩
          · show (w1.A ++ [b])[w1.S.length]? = some b
            rw [← k1.len, List.getElem?_append_right (Nat.le_refl _)]
            simp
          · refine out_sw ?_
            have o2 := Out.trans o1 x2
            refine Out.bind o2 fun d H3 w3 v x3 k3 r3 o3 => ?_
            split at o3
            · refine ⟨r3.non_inv, o3.valE k3 (.ref ?_)⟩
              refine x3.at (w := (⟨w1.A ++ [b], w1.S ++ [.ins ci []], w1.Z⟩ : Wl c)) ?_
              show (w1.A ++ [b])[w1.S.length]? = some b
              rw [← k1.len, List.getElem?_append_right (Nat.le_refl _)]
              simp
            · exact o3.elim
      · cases hm
  · cases x <;> first | exact Bool.noConfusion (show false = true from h) | rfl
/-! ### len(o) -/
section
variable {Pr : Program} {Wd : World} {Ar : Around} {Ex : Value → Shared → Prop} {st : Shared}
theorem len_own {K : PySem.W.Frag} {x Ca f : Addr} {ox : Obj} {od : Option Obj} {Q : Value → Shared → Prop} (hK : K.In st.heap) (hI : PySem.W.InstAt st.heap x ox Ca od) (hs : PySem.W.findIn K (.ref Ca) "__len__" = some (some (.ref f))) (hf : PySem.W.isFn K (.ref f) = true)
    (h : wpAny (model Pr Wd) Ar.in1 (call (.ref f) [.ref x]) (fun v t => ∃ n u, v = Value.int n u ∧ 0 ≤ n ∧ n < 2 ^ 63 ∧ Q (.int n t.toks) { t with toks := t.toks + 1 }) Ex st) : wpAny (model Pr Wd) Ar (call (.builtin "len") [.ref x]) Q Ex st := by
  refine Calls.call_function_entry kind_len plain_len entry_len (args_len1 _) (show wpAny _ _ (Builtin.«len» _) _ _ _ from ?_)
  unfold Builtin.«len»; refine wpAny_bind (m := oneArg "len" _) (wpAny_pure (wpAny_bind (m := callSpecial? (.ref x) (Str.ofString "__len__")) (PySem.W.special_fn hK hI hs (beq_iff_eq.mp hf) (wpAny_mono h (fun r t hr => ?_) fun _ _ y => y))))
  obtain ⟨n, u, rfl, h0, h1, hq⟩ := hr
  refine wpAny_bind (wpAny_holding (wpAny_pure (wpAny_bind (wpAny_letGo (show wpAny _ _ (if n < 0 then _ else _) _ _ _ from ?_)))))
  rw [if_neg (show ¬ n < 0 by omega)]
  refine (show wpAny _ _ (if n ≥ 2 ^ 63 then _ else _) _ _ _ from ?_)
  rw [if_neg (show ¬ n ≥ 2 ^ 63 by omega)]; exact wpAny_bind (wpAny_mkInt (wpAny_pure ⟨_, rfl, hq⟩))
end
theorem pe_ulenC {X : Cx} {W : WX} {f : Addr} {fd : FuncData} {ps : List Str} {sp : Sp} {e : Expr} {p pos : Pos} {ta : TE} (he : PE X e ta) (hfe : fine e = true) (hg : Gl X "len") (hmg : X.mg "len" = none) (hm : L2.Meth X.K c.lc "__len__" f) (F : FnOk X.prog X.w X.K X.mg X.base (L2.CX X.prog X.w) k f fd ps sp) (hr : Room (k + 1) X.A) (hb : Binds X.K fd ps []) (tk : Takes X W) :
    PE X (.Call (.Name "len" p) [e] [] pos) (fun σ H Q => ta σ H fun x H1 => ∃ a dx fs, [x] = [V.ref a] ∧ H1 a = some (.ins c.lc dx fs) ∧ sp [.ref a] H1 (fun v H2 => ∃ n : Int, v = .int n ∧ 0 ≤ n ∧ n < 2 ^ 63 ∧ Q (.int n) H2) (WE W σ)) := by
  refine ⟨fun pins s σ H Q I h => wpAny_Call_Name_kw (ld_blt I hg hmg (u := .builtin "len") (by decide +kernel) ?_ (by decide) (by decide))⟩
  have hst : starEach [e] X.env = [(false, eval e X.env)] := fine_star hfe
  have hA := (pa_cons he pa_nil (fine_star hfe)).run pos pins s σ H (fun vs H1 => ∃ a dx fs, vs = [.ref a] ∧ H1 a = some (.ins c.lc dx fs) ∧ sp [.ref a] H1 (fun v H2 => ∃ n : Int, v = .int n ∧ 0 ≤ n ∧ n < 2 ^ 63 ∧ Q (.int n) H2) (WE W σ)) I ?_
  · refine PyProof.Rows.callWith_builtin1 (thn hA fun us s1 ⟨vs, H1, I1, r1, a, dx, fs, ev, ea, q1⟩ => ?_) (fine_star hfe) rfl
    subst ev
    obtain ⟨mA, O, _, _, _, _⟩ := ins_get I1.hok ea
    rw [Vals.ref1 r1]
    obtain ⟨od, O', _⟩ := O.look
    have hl := F.len _ _ _ _ q1
    have b := hb s1 [.ref a] I1.kIn (by rw [List.append_nil]; exact hl)
    rw [List.append_nil] at b
    refine len_own I1.kIn O' hm.at_ hm.fn (wpAny_call (codeAny_mono (F.run X.A.in1 X.stack s1 H1 ⟨[.ref a], []⟩ [.ref a] [.ref a] _ (WE W σ) hr.in1 I1.env0.in1 b (.cons rfl .nil) q1) fun r s' hq => ?_))
    rcases r with e1 | fl
    · exact passAt tk σ pins H1 s1 e1 s' I1 hq
    · cases fl with
      | ret u =>
        obtain ⟨v, H2, I2, rv, n, rfl, h0, h1, q⟩ := I1.after hq
        obtain ⟨t, rfl⟩ := rv
        exact ⟨n, t, rfl, h0, h1, .int n, H2, I2.tok _, ⟨_, rfl⟩, q⟩
      | next => exact False.elim hq
      | brk => exact False.elim hq
      | cont => exact False.elim hq
  · exact h
theorem snd_ulen (f : Nat) {o : E} (ho : SndE nm c G C k o) : SndE nm c G C k (.ulen f o) := by
  refine .of (fun X cx W fi x ox h => ?_) fun cx x h => ?_
  · cases x <;> first | exact Bool.noConfusion (show false = true from h) | skip
    rename_i fe xs kws pos
    match fe, xs, kws, h with
    | .Name y py, [o'], [], h =>
      simp only [okE, Bool.and_eq_true, decide_eq_true_eq] at h
      obtain ⟨⟨⟨⟨⟨⟨hf, hl⟩, rfl⟩, hg⟩, hm⟩, hfe⟩, h1⟩ := h
      have := okE_fi hf
      subst this
      split at hm
      · rename_i m n hmt
        simp only [Bool.and_eq_true, decide_eq_true_eq] at hm
        obtain ⟨rfl, rfl⟩ := hm
        obtain ⟨a, fd, ps, hps, hme, _, hb, F⟩ := ox.tb.mt f _ 1 hmt
        refine PE.imp (pe_ulenC (ho.pe X cx W false o' ox h1) hfe (gl_of ox.sc hg) (ox.tb.bl _ (by decide)) hme F ox.roomS hb ox.tk) fun σ H Q ⟨w, r, kk, er, out⟩ => ?_
        refine ⟨w, r, kk, er, out.bind fun d H1 w1 v x1 k1 r1 o1 => ?_⟩
        split at o1
        · rename_i hi
          obtain ⟨j, ci, fs, rfl, q⟩ := isIns_inv hi
          obtain ⟨b, rfl, hb'⟩ := r1.ref_inv
          obtain ⟨dx, gs, e1, e2⟩ := k1.obj j b _ hb' q
          refine ⟨b, dx, gs, rfl, e1, w1, [_], k1, .cons r1 .nil, out_sw ?_⟩
          refine Out.bind o1 fun d2 H2 w2 v2 x2 k2 r2 o2 => ?_
          split at o2
          · obtain ⟨hb2, o2⟩ := o2.okI
            simp only [Bool.and_eq_true, decide_eq_true_eq] at hb2
            exact ⟨_, r2.int_inv, hb2.1, hb2.2, o2.valE k2 (.int _)⟩
          · exact o2.elim
        · exact o1.elim
      · cases hm
  · cases x <;> first | exact Bool.noConfusion (show false = true from h) | rfl
/-! ### isinstance(e, T), e an exception that was caught -/
theorem asXc_eq {d : D} {n : Nat} (h : asXc d = some n) : d = xcv n := by
  unfold asXc at h
  split at h
  · cases h; rfl
  · cases h
theorem Rp.exv_inv {H : Hp} {w : Wl c} {v : V} {n : Nat} (r : Rp H w v (xcv n)) : ∃ a, v = .ref a ∧ H a = some (XcO (c.cv n) a) := by
  cases r with | exv h _ => exact ⟨_, rfl, h⟩
theorem cr_isX {X : Cx} : CallR X (.builtin "isinstance") (fun xs H Q => ∃ (a Da : Addr) (z : V) (cv : Value) (b : Bool), xs = [.ref a, z] ∧ H a = some (XcO (.ref Da) a) ∧ ExcC X.K Da ∧ (∀ u, RelV z u → u = cv) ∧ PySem.W.kitOne X.K (.ref Da) cv = some b ∧ Q (.bl b) H) := by
  intro pins s σ H xs us Q I r h
  obtain ⟨a, Da, z, cv, b, rfl, ha, ec, hcv, e, q⟩ := h
  obtain ⟨u1, u2, rfl, rx, rt⟩ := vals2 r
  cases rx
  have e2 := hcv _ rt
  subst e2
  obtain ⟨⟨⟨o1, o2, o3, o4⟩, vs, hg, ⟨z1, z2⟩, z3⟩, _, _⟩ := I.hok a _ ha
  dsimp only at z1 z2 z3
  subst z1 z2 z3
  exact PySem.W.kia_one (PySem.W.handS_kitx_exc ec.hg ec.hk ec.hs ec.hd ec.ha ec.hn ec.ht ec.hm) I.kIn ⟨hg, rfl, rfl, trivial⟩ e (fun z => nomatch z) fun tk => ⟨.bl b, H, I.kept (t' := tk) fun _ _ z => z, rfl, q⟩
theorem snd_isi (y : Nat) {e : E} (he : SndE nm c G C k e) : SndE nm c G C k (.isi y e) := by
  refine .of (fun X cx W fi x ox h => ?_) fun cx x h => ?_
  · cases x <;> first | exact Bool.noConfusion (show false = true from h) | skip
    rename_i fe xs kws pos
    match fe, xs, kws, h with
    | .Name z pz, [a', .Name t pt], [], h =>
      simp only [okE, Bool.and_eq_true, decide_eq_true_eq] at h
      obtain ⟨⟨⟨⟨⟨⟨⟨hf, h8⟩, rfl⟩, hg⟩, hgt⟩, hy⟩, hfa⟩, h1⟩ := h
      have := okE_fi hf
      subst this
      have tail : ∀ (zv : V) (cv : Value), (∀ u, RelV zv u → u = cv) → (∀ n Ca, n < 8 → c.cv n = .ref Ca → PySem.W.kitOne X.K (.ref Ca) cv = some (subX n y)) → PE X (.Name t pt) (tC zv) → PE X (.Call (.Name "isinstance" pz) [a', .Name t pt] [] pos) (rdG false c W (ev G C (.isi y e))) := by
        intro zv cv hcv hk pt'
        refine PE.imp (pe_callB cr_isX (gl_of ox.sc hg) (ox.tb.bl _ (by decide)) (by decide +kernel) (pa_cons (he.pe X cx W false a' ox h1) (pa_cons pt' pa_nil) (fine_star hfa)) (by decide) (by decide) (fine_star hfa) rfl) fun σ H Q ⟨w, r, kk, er, out⟩ => ?_
        refine ⟨w, r, kk, er, out.bind fun d H1 w1 v x1 k1 r1 o1 => ?_⟩
        split at o1
        · rename_i n hn
          have := asXc_eq hn
          subst this
          obtain ⟨hb, o1⟩ := o1.okI
          have hb := of_decide_eq_true hb
          obtain ⟨a, rfl, ha⟩ := r1.exv_inv
          obtain ⟨Ca, c1, c2, c3, c4, c5⟩ := ox.tb.x8 h8 n hb
          rw [c1] at ha
          exact ⟨a, Ca, zv, cv, _, rfl, ha, c2, hcv, hk n Ca hb c1, o1.valE k1 (.bl _)⟩
        · exact o1.elim
      by_cases h100 : y = 100
      · subst h100
        rw [if_pos rfl] at hy
        have := of_decide_eq_true hy
        subst this
        refine tail (.ty "ValueError") (.type "ValueError") (fun u hu => hu) (fun n Ca hn e1 => ?_) (pe_bltn (gl_of ox.sc hgt) (ox.tb.bl _ (by decide)) (by decide +kernel) rfl (by decide) (by decide))
        obtain ⟨Ca', c1, c2, c3, c4, c5⟩ := ox.tb.x8 h8 n hn
        rw [e1] at c1
        cases c1
        rw [c3]
        simp [subX]
      · rw [if_neg h100] at hy
        simp only [Bool.and_eq_true, decide_eq_true_eq, Bool.not_eq_true'] at hy
        obtain ⟨⟨y1, y2⟩, y3⟩ := hy
        obtain ⟨Ca, g1, g2, g3, g4, g5, g6⟩ := ox.tb.ex y t y2
        refine tail (.ref Ca) (.ref Ca) (fun u hu => hu) (fun n Cb hn e1 => ?_) (pe_glob (gl_of ox.sc hgt) g1 rfl y3)
        obtain ⟨Cb', c1, c2, c3, c4, c5⟩ := ox.tb.x8 h8 n hn
        rw [e1] at c1
        cases c1
        rw [← g6]
        exact c5 y y1
  · cases x <;> first | exact Bool.noConfusion (show false = true from h) | rfl
end MP
end

section
set_option Elab.async false
set_option linter.all false
set_option maxRecDepth 100000
set_option maxHeartbeats 4000000
set_option autoImplicit false
namespace MP
open PySem L2 PySem.Spec PyProof.Rows
variable {nm : Nm} {c : Cfg} {G : Nat → Option D} {C : Call} {k : Nat}
theorem okE_plain {cx : SC} {e : E} {x : Expr} (hr : isFr e = true) (h : okE nm cx e true x = true) : plainT x = true := by
  cases e <;> first | exact Bool.noConfusion (show false = true from hr) | skip
  all_goals (cases x <;> first | exact Bool.noConfusion (show false = true from h) | rfl)
theorem snd_never {e : E} (h : ∀ cx fi x, okE nm cx e fi x = false) : SndE nm c G C k e :=
  ⟨fun X cx W fi x ox hx => Bool.noConfusion ((h cx fi x).symm.trans hx), fun X cx W x ox hx => Bool.noConfusion ((h cx false x).symm.trans hx)⟩
mutual
theorem sndE : ∀ e : E, SndE nm c G C k e
  | .var i => snd_var i
  | .int i => snd_int i
  | .bl b => snd_bl b
  | .non => snd_non
  | .str z => snd_str z
  | .glob g => snd_glob g
  | .bin o a b => snd_bin o (sndE a) (sndE b)
  | .neg a => snd_neg (sndE a)
  | .nt a => snd_nt (sndE a)
  | .and a b => snd_and (sndE a) (sndE b)
  | .or a b => snd_or (sndE a) (sndE b)
  | .ite t a b => snd_ite (sndE t) (sndE a) (sndE b)
  | .cmp o a b => snd_cmp o (sndE a) (sndE b)
  | .chain o p a b d => snd_chain o p (sndE a) (sndE b) (sndE d)
  | .tup es => snd_tup (sndEs es)
  | .lst es => snd_lst (sndEs es)
  | .ix a i => snd_ix (sndE a) (sndE i)
  | .slc a lo hi => snd_slc (sndE a) (sndO lo) (sndO hi)
  | .rev a => snd_rev (sndE a)
  | .dct => snd_dct
  | .call f es => snd_call f (sndEs es)
  | .prim p es => snd_prim p (sndEs es)
  | .meth m o es => snd_meth m (sndE o) (sndEs es)
  | .attr o f => snd_attr f (sndE o)
  | .comp elt tg it cond own => snd_comp (sndE elt) (sndJ it) (sndO cond)
  | .mt e => snd_mt (sndE e) fun _ _ hr h => okE_plain hr h
  | .fz e => snd_fz (sndE e)
  | .umeth f o es => snd_umeth f (sndE o) (sndEs es)
  | .mk ci f es => snd_mk ci f (sndEs es)
  | .ulen f o => snd_ulen f (sndE o)
  | .isi y e => snd_isi y (sndE e)
theorem sndEs : ∀ es : Es, SndEs nm c G C k es
  | .nil => snds_nil
  | .cons e es => snds_cons (sndE e) (sndEs es)
theorem sndO : ∀ o : Oe, SndO nm c G C k o
  | .none => sndo_none
  | .some e => sndo_some (sndE e)
theorem sndJ : ∀ j : MP.Itr, SndJ nm c G C k j
  | .of e => sndj_of (sndE e)
  | .rng a b => sndj_rng (sndE a) (sndE b)
  | .rng1 a => sndj_rng1 (sndE a)
  | .enum a => sndj_enum (sndE a)
  | .zip a b => sndj_zip (sndE a) (sndE b)
end
/-! ### statements: the checker -/
def bkC (sc : Scope) : ScopeKind := if sc.kind.isAnnotationScope then .function else sc.kind
def isStar : Expr → Bool
  | .Starred _ _ => true
  | _ => false
def swNames (sc : Scope) (line : Nat) (ts : List Expr) : List Str := ts.filterMap fun
    | .Name id pos => if sc.names.lookup id == some .local && pos.line == line then some id else none
    | _ => none
/-- swapped stores: none: not said -/
def swC (sc : Scope) (tg e : Expr) : Option (Option (List Str)) :=
  match tg, e with
  | .Tuple ts _ _, .Tuple vs _ _ =>
    if (!(ts.length == 2 || ts.length == 3) || vs.length != ts.length || bkC sc != .function) = true then some none
    else if vs.any (fun | .Starred .. => true | _ => false) = true then some none
    else if ((swNames sc ((ts.head?.map (·.pos.line)).getD 0) ts).length != ts.length || (swNames sc ((ts.head?.map (·.pos.line)).getD 0) ts).eraseDups.length != (swNames sc ((ts.head?.map (·.pos.line)).getD 0) ts).length) = true then some none
    else if vs.all (foldedForSure 8) = true then some none
    else if vs.all (constantsAlone 8) = true then none
    else some (some (swNames sc ((ts.head?.map (·.pos.line)).getD 0) ts))
  | .List _ _, _ => none
  | _, _ => some none
theorem sw_gen {α : Type} {c1 c2 c3 c4 c5 : Prop} [Decidable c1] [Decidable c2] [Decidable c3] [Decidable c4] [Decidable c5] {m u : Sem (Option α)} {nms : α} {r : Option α}
    (h : (if c1 then some none else if c2 then some none else if c3 then some none else if c4 then some none else if c5 then none else some (some nms)) = some r) :
    (if c1 then pure none else if c2 then pure none else if c3 then pure none else if c4 then pure none else if c5 then u else pure (some nms) : Sem (Option α)) = pure r := by
  by_cases d1 : c1
  · rw [if_pos d1] at h ⊢; cases h; rfl
  rw [if_neg d1] at h ⊢
  by_cases d2 : c2
  · rw [if_pos d2] at h ⊢; cases h; rfl
  rw [if_neg d2] at h ⊢
  by_cases d3 : c3
  · rw [if_pos d3] at h ⊢; cases h; rfl
  rw [if_neg d3] at h ⊢
  by_cases d4 : c4
  · rw [if_pos d4] at h ⊢; cases h; rfl
  rw [if_neg d4] at h ⊢
  by_cases d5 : c5
  · rw [if_pos d5] at h; cases h
  rw [if_neg d5] at h ⊢
  cases h; rfl
theorem swC_ok {env : PySem.Env} {tg e : Expr} {r : Option (List Str)} (h : swC env.scope tg e = some r) : swappedStores [tg] e env = pure r := by
  cases tg <;> first | (cases h; done) | skip
  all_goals (try (cases e <;> (first | (cases h; rfl) | skip)))
  rename_i ts _ _ vs _ _
  exact sw_gen (m := pure none) h
/-- a comprehension whose list is stored within its own frame -/
def swB (sc : Scope) (t e : Expr) : Bool := match e with
  | .ListComp _ _ scope pos => (match t with
    | .Name x py => bkC sc == .function && sc.names.lookup x == some .local && py.line == pos.line && !(scope.names.any fun (n, k) => n == x && (k == .local || k == .cell))
    | _ => false)
  | _ => false
def noSD : Expr → Bool
  | .SetComp _ _ _ _ => false
  | .DictComp _ _ _ _ _ => false
  | _ => true
theorem swB_ok {env : PySem.Env} {t e : Expr} {line : Nat} (h : noSD e = true) : swapsWith e (some t) line env = pure (swB env.scope t e) := by
  cases e <;> first | exact Bool.noConfusion (show false = true from h) | rfl | skip
  cases t <;> rfl
def isLC : E → Bool
  | .comp _ _ _ _ _ => true
  | .mt (.comp _ _ _ _ _) => true
  | _ => false
def tgName : Tg → Option Nat
  | .nm i => some i
  | _ => none
def parB (cx : SC) : List Nat → List Expr → Bool
  | [], [] => true
  | i :: is, .Name x _ :: xs => decide (cx.N[i]? = some x) && isLocB cx.sc x && !is.contains i && parB cx is xs
  | _, _ => false
def nms : List Expr → List Str
  | .Name x _ :: xs => x :: nms xs
  | _ => []
def raiseOf : Stmt → Option (Str × Str × Nat × Pos × Pos × Pos × Pos)
  | .Raise (some (.Call (.Name x p1) [.Constant (.str m) j p2] [] p3)) none p4 => some (x, m, j, p1, p2, p3, p4)
  | _ => none
theorem raiseOf_eq {st : Stmt} {x m : Str} {j : Nat} {p1 p2 p3 p4 : Pos} (h : raiseOf st = some (x, m, j, p1, p2, p3, p4)) : st = .Raise (some (.Call (.Name x p1) [.Constant (.str m) j p2] [] p3)) none p4 := by
  unfold raiseOf at h
  split at h
  · cases h; rfl
  · cases h
/-- the one statement of a try -/
def isS1 : MP.S → Bool
  | .asg (.nm _) e => !isLC e
  | .exp _ => true
  | .ite _ (.cons (.exp _) .nil) (.cons (.exp _) .nil) => true
  | _ => false
/-- try: b / except x as n: y = z -/
structure TryP where
  b : Stmt
  x : Str
  n : Str
  y : Str
  z : Str
  p1 : Pos
  p2 : Pos
  p3 : Pos
  p4 : Pos
  p5 : Pos
  p6 : Pos
def tryOf : Stmt → Option TryP
  | .Try [b] [.ExceptHandler (some (.Name x p1)) (some n) [.Assign [.Name y p2] (.Name z p3) p4] p5] [] [] p6 => some ⟨b, x, n, y, z, p1, p2, p3, p4, p5, p6⟩
  | _ => none
theorem tryOf_eq {st : Stmt} {q : TryP} (h : tryOf st = some q) : st = .Try [q.b] [.ExceptHandler (some (.Name q.x q.p1)) (some q.n) [.Assign [.Name q.y q.p2] (.Name q.z q.p3) q.p4] q.p5] [] [] q.p6 := by
  unfold tryOf at h
  split at h
  · cases h; rfl
  · cases h
theorem tryOf_size {st : Stmt} {q : TryP} (h : tryOf st = some q) : sizeOf q.b < sizeOf st := by
  rw [tryOf_eq h]
  simp
  omega
variable (nm)
mutual
def okS (cx : SC) : MP.S → Stmt → Bool
  | .asg tg e, .Assign [t'] e' _ => okT cx tg t' && noSD e' && decide (swC cx.sc t' e' = some none) && okE nm cx e false e' && (!swB cx.sc t' e' || (isLC e && (tgName tg).isSome))
  | .par is es, .Assign [.Tuple ts' _ _] (.Tuple es' _ _) _ => (is.length == 2 || is.length == 3) && parB cx is ts' && okEs nm cx es es' && decide (ts'.length = es'.length) && (match swC cx.sc (.Tuple ts' 0 ⟨0, 0, 0, 0⟩) (.Tuple es' 0 ⟨0, 0, 0, 0⟩) with
    | some (some l) => decide (l = nms ts')
    | _ => false)
  | .aset o i e, .Assign [.Subscript o' i' _] e' _ => noSD e' && !swB cx.sc (.Subscript o' i' ⟨0, 0, 0, 0⟩) e' && fine i' && okE nm cx o false o' && okE nm cx i false i' && okE nm cx e false e'
  | .aug i o e, .AugAssign (.Name x _) p e' _ => decide (bopOf o = p) && decide (cx.N[i]? = some x) && locB cx.sc x && (cx.fn x || isLocB cx.sc x) && (match o with
    | .add => true
    | .sub => true
    | _ => false) && okE nm cx e false e'
  | .augix o i p e, .AugAssign (.Subscript o' i' _) p' e' _ => decide (bopOf p = p') && fine i' && (match p with
    | .add => true
    | .sub => true
    | _ => false) && okE nm cx o false o' && okE nm cx i false i' && okE nm cx e false e'
  | .exp e, .Expr e' _ => noSD e' && (match e' with
    | .ListComp _ _ _ _ => false
    | _ => true) && okE nm cx e false e'
  | .ret e, .Return (some e') _ => okE nm cx e false e'
  | .pass, .Pass _ => true
  | .brk, .Break _ => true
  | .ite c a b, .If c' a' b' _ => okE nm cx c false c' && okSs cx a a' && okSs cx b b'
  | .for_ tg it body, .For t' it' body' [] _ => okJ nm cx it (isTupE t') it' && okT cx tg t' && okSs cx body body'
  | .whil c body, .While c' body' [] _ => okE nm cx c false c' && okSs cx body body'
  | .aattr o f e, .Assign [.Attribute o' x _] e' _ => nm.lg && decide (f < 2) && decide (x = attN f) && noSD e' && !swB cx.sc (.Attribute o' x ⟨0, 0, 0, 0⟩) e' && okE nm cx o false o' && okE nm cx e false e'
  | .tri s i j, st => (match tryOf st with
    | some q => nm.x8 && isS1 s && okS cx s q.b && decide (nm.cls 0 = some q.x) && glB cx.sc q.x && !(q.x == ("__debug__" : Str)) && decide (cx.N[i]? = some q.n) && isLocB cx.sc q.n && decide (cx.N[j]? = some q.y) && isLocB cx.sc q.y && decide (q.z = q.n) && decide (i ≠ j) && !(q.n == ("__debug__" : Str)) && !(q.n == ("__classdict__" : Str))
    | none => false)
  | .raise i, st => (match raiseOf st with
    | some (x, _) => decide (nm.cls i = some x) && glB cx.sc x && !(x == ("__debug__" : Str))
    | none => false)
  | _, _ => false
def okSs (cx : SC) : Ss → List Stmt → Bool
  | .nil, [] => true
  | .cons (.frz _) ss, xs => okSs cx ss xs
  | .cons s ss, x :: xs => okS cx s x && okSs cx ss xs
  | _, _ => false
end
end MP
end

section
set_option Elab.async false
set_option linter.all false
set_option maxRecDepth 100000
set_option maxHeartbeats 4000000
set_option autoImplicit false
namespace MP
open PySem L2 PySem.Spec PyProof.Rows
variable {nm : Nm} {c : Cfg} {G : Nat → Option D} {C : Call} {k : Nat}
def OutS (c : Cfg) (W : WX) (H : Hp) (w : Wl c) (Dn : Ends) : SR → Prop
  | .bad => False
  | .exc x S' => ∀ σ' H' w', Ext H w H' w' → w'.S = S' → Wok H' w' → W (c.cv x) none σ' H'
  | .ok (.nx, r') S' => ∀ σ' H' w', Ext H w H' w' → w'.S = S' → Wok H' w' → ER H' w' r' σ' → Dn.nx σ' H'
  | .ok (.rt d, _) S' => ∀ v H' w', Ext H w H' w' → w'.S = S' → Wok H' w' → Rp H' w' v d → Dn.rt v H'
  | .ok (.bk, r') S' => ∀ σ' H' w', Ext H w H' w' → w'.S = S' → Wok H' w' → ER H' w' r' σ' → Dn.bk σ' H'
def rdS (c : Cfg) (W : WX) (f : Env → Store → SR) : TS := fun Dn σ H => ∃ w : Wl c, ∃ r, Wok H w ∧ ER H w r σ ∧ OutS c W H w Dn (f r w.S)
section
variable {W : WX} {σ : L2.St} {H H1 : Hp} {w w1 : Wl c} {Dn : Ends}
theorem OutS.trans {r : SR} (o : OutS c W H w Dn r) (x : Ext H w H1 w1) : OutS c W H1 w1 Dn r := by
  match r, o with
  | .bad, o => exact o
  | .exc n S', o => exact fun σ' H' w' y e kk => o σ' H' w' (x.trans y) e kk
  | .ok (.nx, r') S', o => exact fun σ' H' w' y e kk er => o σ' H' w' (x.trans y) e kk er
  | .ok (.rt d, r') S', o => exact fun v H' w' y e kk rp => o v H' w' (x.trans y) e kk rp
  | .ok (.bk, r') S', o => exact fun σ' H' w' y e kk er => o σ' H' w' (x.trans y) e kk er
theorem OutS.bind {Q' : VK} {r : Res D} {f : D → Store → SR} (o : OutS c W H w Dn (r.bind f))
    (h : ∀ d H1 w1 v, Ext H w H1 w1 → Wok H1 w1 → Rp H1 w1 v d → OutS c W H1 w1 Dn (f d w1.S) → Q' v H1) : OutE c W σ H w Q' r := by
  cases r with
  | bad => exact o
  | ok d S' =>
    intro H' w' v x e kk rp
    subst e
    exact h d H' w' v x kk rp (OutS.trans (r := f d w'.S) o x)
  | exc n S' => exact fun H' w' x e kk => o σ H' w' x e kk
theorem OutS.bindA {Q' : List V → Hp → Prop} {r : Res (List D)} {f : List D → Store → SR} (o : OutS c W H w Dn (r.bind f))
    (h : ∀ d H1 w1 v, Ext H w H1 w1 → Wok H1 w1 → RpAll H1 w1 v d → OutS c W H1 w1 Dn (f d w1.S) → Q' v H1) : OutA c W σ H w Q' r := by
  cases r with
  | bad => exact o
  | ok d S' =>
    intro H' w' v x e kk rp
    subst e
    exact h d H' w' v x kk rp (OutS.trans (r := f d w'.S) o x)
  | exc n S' => exact fun H' w' x e kk => o σ H' w' x e kk
theorem OutS.bindT {Q' : Bool → Hp → Prop} {r : Res D} {f : D → Store → SR} (o : OutS c W H w Dn (r.bind f)) (hb : ∀ d S', r = .ok d S' → tru d = none → f d S' = .bad)
    (h : ∀ b H1 w1, Ext H w H1 w1 → Wok H1 w1 → OutS c W H1 w1 Dn (f (.bool b) w1.S) → Q' b H1) : OutT c W σ H w Q' r := by
  cases r with
  | bad => exact o
  | ok d S' =>
    cases e : tru d with
    | none =>
      have := hb d S' rfl e
      have o : OutS c W H w Dn (f d S') := o
      rw [this] at o
      exact o.elim
    | some b =>
      have := tru_eq e
      subst this
      refine ⟨b, rfl, fun H' w' x es kk => ?_⟩
      subst es
      exact h b H' w' x kk (OutS.trans (r := f (.bool b) w'.S) o x)
  | exc n S' => exact fun H' w' x e kk => o σ H' w' x e kk
theorem OutS.ofO {x : Option (Fl × Env)} (o : OutS c W H w Dn (ofO x w.S)) : ∃ d, x = some d ∧ OutS c W H w Dn (.ok d w.S) := by
  unfold MP.ofO at o
  split at o
  · rename_i d; exact ⟨d, rfl, o⟩
  · exact o.elim
end
/-- what is asked of the context of statements -/
structure SX (X : Cx) : Prop where
  pass : PassesOwn (model X.prog X.w) X.A X.env X.xe
  stk : X.stack = X.env :: X.outer
  fr : X.env.frame = some X.env.locals
  ex : X.ex = []
variable (nm c G C k) in
def SndS (s : MP.S) : Prop := ∀ (X : Cx) (cx : SC) (W : WX) (x : Stmt), XO nm c G C k X cx W → SX X → okS nm cx s x = true → PS X x (rdS c W (ex G C s))
variable (nm c G C k) in
def SndSs (s : Ss) : Prop := ∀ (X : Cx) (cx : SC) (W : WX) (x : List Stmt), XO nm c G C k X cx W → SX X → okSs nm cx s x = true → PSs X x (rdS c W (exs G C s))
theorem snds_exp (e : E) : SndS nm c G C k (.exp e) := by
  intro X cx W x ox hp h
  cases x <;> first | exact Bool.noConfusion (show false = true from h) | skip
  rename_i e' pos
  simp only [okS, Bool.and_eq_true] at h
  obtain ⟨⟨h1, h2⟩, h3⟩ := h
  have hs : swapsWith e' none pos.line X.env = pure false := by
    cases e' <;> first | rfl | exact Bool.noConfusion (show false = true from h1) | exact Bool.noConfusion (show false = true from h2)
  refine PS.imp (ps_expr ((sndE e).pe X cx W false e' ox h3) hs) fun Dn σ H ⟨w, r, kk, er, out⟩ => ?_
  refine ⟨w, r, kk, er, out.bind fun d H1 w1 v x1 k1 r1 o1 => ?_⟩
  exact o1 σ H1 w1 .refl rfl k1 (er.ext x1 kk)
theorem snds_ret (e : E) : SndS nm c G C k (.ret e) := by
  intro X cx W x ox hp h
  cases x <;> first | exact Bool.noConfusion (show false = true from h) | skip
  rename_i e' pos
  cases e' with
  | none => exact Bool.noConfusion (show false = true from h)
  | some e' =>
    have h1 : okE nm cx e false e' = true := h
    refine PS.imp (ps_ret ((sndE e).pe X cx W false e' ox h1)) fun Dn σ H ⟨w, r, kk, er, out⟩ => ?_
    refine ⟨w, r, kk, er, out.bind fun d H1 w1 v x1 k1 r1 o1 => ?_⟩
    exact o1 v H1 w1 .refl rfl k1 r1
theorem snds_pass : SndS nm c G C k .pass := by
  intro X cx W x ox hp h
  cases x <;> first | exact Bool.noConfusion (show false = true from h) | skip
  exact PS.imp ps_pass fun Dn σ H ⟨w, r, kk, er, out⟩ => out σ H w .refl rfl kk er
theorem snds_brk : SndS nm c G C k .brk := by
  intro X cx W x ox hp h
  cases x <;> first | exact Bool.noConfusion (show false = true from h) | skip
  exact PS.imp ps_break fun Dn σ H ⟨w, r, kk, er, out⟩ => out σ H w .refl rfl kk er
theorem pmk_D {X : Cx} {x m : Str} {j : Nat} {p p2 pos : Pos} {Ca : Addr} (g1 : X.mg x = some (.ref Ca)) (g2 : PySem.W.excIn X.K Ca [.type "ValueError", .type "Exception", .type "BaseException", .type "object"] "ValueError.__new__" = true) (g3 : PySem.W.keepIn X.K (.ref Ca) = true)
    (g4 : PySem.W.subIn X.K (.ref Ca) (.type "BaseException") = some true) (g5 : PySem.W.typeIn X.K (.ref Ca) = some (.type "type")) (hg : Gl X x) (hd : (x == ("__debug__" : Str)) = false) : PMk X (.Call (.Name x p) [.Constant (.str m) j p2] [] pos) (fun _ H Q => Q (.ref Ca) none H) :=
  pmk_own PySem.F.excBase_ValueError g2 g1 g3 (raises_own g4 g5) hg hd
theorem snds_raise (i : Nat) : SndS nm c G C k (.raise i) := by
  intro X cx W st ox hp h
  cases hq : raiseOf st with
  | none =>
    have h : (match raiseOf st with
      | some (x, _) => decide (nm.cls i = some x) && glB cx.sc x && !(x == ("__debug__" : Str))
      | none => false) = true := h
    rw [hq] at h
    cases h
  | some q =>
    obtain ⟨x, m, j, p1, p2, p3, p4⟩ := q
    have h1 : (match raiseOf st with
      | some (x, _) => decide (nm.cls i = some x) && glB cx.sc x && !(x == ("__debug__" : Str))
      | none => false) = true := h
    rw [hq] at h1
    have h1 : (decide (nm.cls i = some x) && glB cx.sc x && !(x == ("__debug__" : Str))) = true := h1
    have e := raiseOf_eq hq
    subst e
    simp only [Bool.and_eq_true, decide_eq_true_eq] at h1
    obtain ⟨⟨h1, h2⟩, h3⟩ := h1
    obtain ⟨Ca, g1, g2, g3, g4, g5, g6⟩ := ox.tb.ex i x h1
    refine PS.imp (ps_raise ox.calm ox.tk (pmk_D g1 g2 g3 g4 g5 (gl_of ox.sc h2) (by simpa using h3))) fun Dn σ H ⟨w, r, kk, er, out⟩ => ?_
    have := out σ H w .refl rfl kk
    rw [g6] at this
    exact this
theorem snds_ite (t : E) {a b : Ss} (ha : SndSs nm c G C k a) (hb : SndSs nm c G C k b) : SndS nm c G C k (.ite t a b) := by
  intro X cx W x ox hp h
  cases x <;> first | exact Bool.noConfusion (show false = true from h) | skip
  rename_i t' a' b' pos
  simp only [okS, Bool.and_eq_true] at h
  obtain ⟨⟨h1, h2⟩, h3⟩ := h
  refine PS.imp (ps_if ((sndE t).pt X cx W t' ox h1) (ha X cx W a' ox hp h2) (hb X cx W b' ox hp h3)) fun Dn σ H ⟨w, r, kk, er, out⟩ => ?_
  refine ⟨w, r, kk, er, out.bindT (fun d S' _ e => by rw [e]) fun b H1 w1 x1 k1 o1 => ?_⟩
  cases b with
  | true => exact iteT ⟨w1, r, k1, er.ext x1 kk, o1⟩
  | false => exact iteF ⟨w1, r, k1, er.ext x1 kk, o1⟩
theorem sndss_nil : SndSs nm c G C k .nil := by
  intro X cx W x ox hp h
  cases x with
  | nil => exact PSs.imp pss_nil fun Dn σ H ⟨w, r, kk, er, out⟩ => out σ H w .refl rfl kk er
  | cons _ _ => exact Bool.noConfusion (show false = true from h)
theorem seq_rd {W : WX} {s : MP.S} {ss : Ss} {Dn : Ends} {σ : L2.St} {H : Hp} (h : rdS c W (exs G C (.cons s ss)) Dn σ H) : tSeq (rdS c W (ex G C s)) (rdS c W (exs G C ss)) Dn σ H := by
  obtain ⟨w, r, kk, er, out⟩ := h
  refine ⟨w, r, kk, er, ?_⟩
  simp only [exs] at out
  match hr : ex G C s r w.S with
  | .bad => rw [hr] at out; exact out
  | .exc n S' => rw [hr] at out; exact out
  | .ok (.nx, r') S' =>
    rw [hr] at out
    intro σ' H' w' x e k1 er'
    subst e
    exact ⟨w', r', k1, er', OutS.trans out x⟩
  | .ok (.rt d, r') S' => rw [hr] at out; exact out
  | .ok (.bk, r') S' => rw [hr] at out; exact out
theorem frz_rd {W : WX} {i : Nat} {ss : Ss} {Dn : Ends} {σ : L2.St} {H : Hp} (h : rdS c W (exs G C (.cons (.frz i) ss)) Dn σ H) : rdS c W (exs G C ss) Dn σ H := by
  obtain ⟨w, r, kk, er, out⟩ := h
  simp only [exs, ex] at out
  cases hg : getV r i with
  | none => rw [hg] at out; exact out.elim
  | some d =>
    rw [hg] at out
    simp only at out
    cases hz : freeze 4 d w.S with
    | none => rw [hz] at out; exact out.elim
    | some q =>
      obtain ⟨y, S1⟩ := q
      rw [hz] at out
      obtain ⟨v, hv, rv⟩ := er.get hg
      obtain ⟨x2, k2, r2⟩ := freeze_ok 4 hz kk rv
      have e1 : σ.set i (some v) = σ := by
        apply List.ext_getElem?
        intro j
        by_cases e : i = j
        · subst e
          have hl : i < σ.length := by
            rcases Nat.lt_or_ge i σ.length with q | q
            · exact q
            · rw [List.getElem?_eq_none q] at hv; cases hv
          rw [List.getElem?_set_self hl, hv]
        · rw [List.getElem?_set_ne e]
      have er2 := (er.ext x2 kk).set r2 i
      rw [e1] at er2
      exact ⟨_, _, k2, er2, OutS.trans out x2⟩
theorem okSs_cons {cx : SC} {s : MP.S} {ss : Ss} {x : List Stmt} (h : okSs nm cx (.cons s ss) x = true) : (∃ i, s = .frz i ∧ okSs nm cx ss x = true) ∨ ∃ y ys, x = y :: ys ∧ okS nm cx s y = true ∧ okSs nm cx ss ys = true := by
  cases s with
  | frz i => exact .inl ⟨i, rfl, h⟩
  | _ =>
    cases x with
    | nil => exact Bool.noConfusion (show false = true from h)
    | cons y ys =>
      have h := Bool.and_eq_true_iff.mp (show (okS nm cx _ y && okSs nm cx ss ys) = true from h)
      exact .inr ⟨y, ys, rfl, h.1, h.2⟩
theorem sndss_cons {s : MP.S} {ss : Ss} (hs : SndS nm c G C k s) (hss : SndSs nm c G C k ss) : SndSs nm c G C k (.cons s ss) := by
  intro X cx W x ox hp h
  rcases okSs_cons h with ⟨i, rfl, h⟩ | ⟨y, ys, rfl, h1, h2⟩
  · exact PSs.imp (hss X cx W x ox hp h) fun Dn σ H hh => frz_rd hh
  · exact PSs.imp (pss_cons (hs X cx W y ox hp h1) (hss X cx W ys ox hp h2)) fun Dn σ H hh => seq_rd hh
end MP
end

section
set_option Elab.async false
set_option linter.all false
set_option maxRecDepth 100000
set_option maxHeartbeats 4000000
set_option autoImplicit false
namespace MP
open PySem L2 PySem.Spec PyProof.Rows
variable {nm : Nm} {c : Cfg} {G : Nat → Option D} {C : Call} {k : Nat}
/-! ### assignments -/
theorem asg_rd {W : WX} {tg : Tg} {e : E} {Dn : Ends} {σ : L2.St} {H : Hp} (h : rdS c W (ex G C (.asg tg e)) Dn σ H) : tAsg (rdE c W (ev G C e)) (rdTg c tg) Dn σ H := by
  obtain ⟨w, r, kk, er, out⟩ := h
  refine ⟨w, r, kk, er, out.bind fun d H1 w1 v x1 k1 r1 o1 => ?_⟩
  obtain ⟨q, hq, o1⟩ := o1.ofO
  simp only [Option.map_eq_some_iff] at hq
  obtain ⟨r', hr, rfl⟩ := hq
  exact ⟨w1, r, d, r', k1, er.ext x1 kk, r1, hr, fun σ' er' _ => o1 σ' H1 w1 .refl rfl k1 er'⟩
theorem okT_map {cx : SC} {t : Tg} {x : Expr} {env : PySem.Env} (h : okT cx t x = true) : (assignEach [x] env).map (·.2) = [assign x env] := by rw [okT_each h]; rfl
theorem snds_asg (tg : Tg) (e : E) : SndS nm c G C k (.asg tg e) := by
  intro X cx W x ox hp h
  cases x <;> first | exact Bool.noConfusion (show false = true from h) | skip
  rename_i ts e' pos
  match ts, h with
  | [t'], h =>
    simp only [okS, Bool.and_eq_true, Bool.or_eq_true, decide_eq_true_eq] at h
    obtain ⟨⟨⟨⟨h1, h2⟩, h3⟩, h4⟩, h5⟩ := h
    have hw : swappedStores [t'] e' X.env = pure none := swC_ok (by rw [ox.sc]; exact h3)
    have hsw : swapsWithSole [t'] e' pos.line X.env = pure (swB cx.sc t' e') := by
      show swapsWith e' (some t') pos.line X.env = _
      rw [swB_ok h2, ox.sc]
    cases hb : swB cx.sc t' e' with
    | false =>
      rw [hb] at hsw
      exact PS.imp (ps_asg ((sndE e).pe X cx W false e' ox h4) (snd_tg ox tg t' h1) hsw hw (okT_map h1)) fun Dn σ H hh => asg_rd hh
    | true =>
      rw [hb] at hsw h5
      obtain ⟨h5, h6⟩ := h5.resolve_left (by simp)
      cases tg with
      | tp _ => exact Bool.noConfusion (show false = true from h6)
      | nm i =>
        cases t' <;> first | exact Bool.noConfusion (show false = true from h1) | skip
        rename_i y py
        have h1' := h1
        simp only [okT, Bool.and_eq_true, Bool.or_eq_true, decide_eq_true_eq] at h1'
        obtain ⟨⟨g1, g2⟩, g3⟩ := h1'
        cases e' <;> first | exact Bool.noConfusion (show false = true from hb) | skip
        rename_i elt' gens scope lpos
        have hyl : X.env.scope.names.lookup y = some .local := by
          rw [ox.sc]
          have hb2 : (bkC cx.sc == .function && cx.sc.names.lookup y == some .local && py.line == lpos.line && !(scope.names.any fun (n, k) => n == y && (k == .local || k == .cell))) = true := hb
          simp only [Bool.and_eq_true] at hb2
          simpa using hb2.1.1.2
        -- the comprehension itself
        have lc : ∀ (elt : E) (tg2 : Tg) (it : MP.Itr) (cond : Oe) (own : List Nat) (fi : Bool), okE nm cx (.comp elt tg2 it cond own) fi (.ListComp elt' gens scope lpos) = true → PS X (.Assign [.Name y py] (.ListComp elt' gens scope lpos) pos) (tAsg (rdG fi c W (ev G C (.comp elt tg2 it cond own))) (rdTg c (.nm i))) := by
          intro elt tg2 it cond own fi hk
          match gens, hk, hsw with
          | [⟨tg', it', ifs', 0⟩], hk, hsw =>
            rw [okE_comp] at hk
            simp only [Bool.and_eq_true] at hk
            obtain ⟨⟨⟨⟨⟨q0, qb⟩, q1⟩, qsl⟩, q2⟩, q3⟩ := hk
            obtain ⟨pi, hf⟩ := (sndJ (nm := nm) (c := c) (G := G) (C := C) (k := k) it) X cx W tg' it' ox q0
            have ok : BlkOk X.N X.env.scope scope (ownOf cx.N own) := by rw [ox.N, ox.sc]; exact blkOk_by qb
            have parts := comp_parts (own := own) (sndE elt) (sndO cond) ox q1 q2 q3
            have p := ps_setLc (i := i) (spos := pos) (py := py) (pos := lpos) ox.calm ox.nd (by rw [ox.N]; exact g1) hyl hsw pi ok (fun s H Ca cl fp => (parts s H Ca cl fp).1) (fun s H Ca cl fp => (parts s H Ca cl fp).2.1) (fun s H Ca cl fp => (parts s H Ca cl fp).2.2) (fine_set hf)
            rw [own_map] at p
            refine PS.imp p fun Dn σ H hh => ?_
            refine comp_rd (fi := fi) (fun i hi => by simpa using List.all_eq_true.mp qsl i hi) ?_
            obtain ⟨w, r, kk, er, out⟩ := hh
            refine ⟨w, r, kk, er, ?_⟩
            have mono : ∀ {r0 : Res D}, Out fi c W σ H w (fun x H1 => rdTg c (.nm i) x σ H1 Dn.nx) r0 → Out fi c W σ H w (fun x H1 => gName i x σ H1 Dn.nx) r0 := by
              intro r0 o
              have st : ∀ v H1, rdTg c (.nm i) v σ H1 Dn.nx → gName i v σ H1 Dn.nx := fun v H1 ⟨w1, r1, d1, r', k1, er1, rp1, hb1, q⟩ => by
                simp only [bindTg, Option.some.injEq] at hb1
                subst hb1
                refine q _ (er1.set rp1 i) ⟨List.length_set, fun j hj => ?_⟩
                rw [List.getElem?_set_ne]
                intro e
                subst e
                exact hj (List.mem_cons_self ..)
              cases r0 with
              | bad => exact o
              | exc n S' => exact o
              | ok d S' =>
                cases fi with
                | false => exact fun H' w' v x es kk r => st _ _ (o H' w' v x es kk r)
                | true =>
                  obtain ⟨ds, e, o⟩ := o
                  exact ⟨ds, e, fun H' w' p xs x es kk r n => st _ _ (o H' w' p xs x es kk r n)⟩
            exact mono out
        match e, h5, h4 with
        | .comp elt tg2 it cond own, _, h4 => exact PS.imp (lc elt tg2 it cond own false h4) fun Dn σ H hh => asg_rd hh
        | .mt (.comp elt tg2 it cond own), _, h4 =>
          simp only [okE, Bool.and_eq_true] at h4
          exact PS.imp (lc elt tg2 it cond own true (by simpa [okE] using h4.2)) fun Dn σ H hh => mt_rd (asg_rd hh)
end MP
end

section
set_option Elab.async false
set_option linter.all false
set_option maxRecDepth 100000
set_option maxHeartbeats 4000000
set_option autoImplicit false
namespace MP
open PySem L2 PySem.Spec PyProof.Rows
variable {nm : Nm} {c : Cfg} {G : Nat → Option D} {C : Call} {k : Nat}
/-! ### self.f = e -/
theorem snds_aattr (o : E) (f : Nat) (e : E) : SndS nm c G C k (.aattr o f e) := by
  intro X cx W x ox hp h
  cases x <;> first | exact Bool.noConfusion (show false = true from h) | skip
  rename_i ts e' pos
  match ts, h with
  | [.Attribute o' y sp], h =>
    simp only [okS, Bool.and_eq_true, Bool.not_eq_true', decide_eq_true_eq] at h
    obtain ⟨⟨⟨⟨⟨⟨hl, h2⟩, rfl⟩, h3⟩, h4⟩, h5⟩, h6⟩ := h
    obtain ⟨l1, l2, l3, l4⟩ := ox.tb.lg hl
    have na : NoAttr X.K c.lc (attN f) := by
      match f, h2 with
      | 0, _ => exact l2
      | 1, _ => exact l3
    have hsw : swapsWith e' (some (.Attribute o' (attN f) sp)) pos.line X.env = pure false := by
      rw [swB_ok h3, ox.sc]
      have : swB cx.sc (.Attribute o' (attN f) sp) e' = swB cx.sc (.Attribute o' (attN f) ⟨0, 0, 0, 0⟩) e' := by cases e' <;> rfl
      rw [this, h4]
    refine PS.imp (ps_fld ((sndE o).pe X cx W false o' ox h5) ((sndE e).pe X cx W false e' ox h6) hsw) fun Dn σ H ⟨w, r, kk, er, out⟩ => ?_
    refine ⟨w, r, kk, er, OutS.bind out fun d H1 w1 v x1 k1 r1 o1 => ?_⟩
    refine ⟨w1, r, k1, er.ext x1 kk, OutS.bind o1 fun d2 H2 w2 v2 x2 k2 r2 o2 => ?_⟩
    split at o2
    · rename_i S4 hS
      unfold setAttr at hS
      split at hS
      · rename_i n en
        have := asRef_eq en
        subst this
        obtain ⟨a, rfl, ha⟩ := r2.ref_inv
        split at hS
        · rename_i ci fs q
          split at hS
          · rename_i hfs
            cases hS
            obtain ⟨dx, gs, e1, e2⟩ := k2.obj n a _ ha q
            have q1 := (e2.put h2 (r1.ext x2 k1))
            refine ⟨a, c.lc, dx, gs, rfl, e1, l1, na, by rw [e2.len]; exact hfs, ?_⟩
            exact o2 σ _ ({ w2 with S := w2.S.set n (.ins ci (setAttr.putA fs f d)) } : Wl c) (store_ext k2 ha q rfl (fun _ => by simp)) rfl (store_wokO k2 ha q rfl ⟨dx, _, upd_same, q1.mv (store_mv k2 ha q rfl)⟩) (((er.ext x1 kk).ext x2 k1).ext (store_ext k2 ha q rfl (fun _ => by simp)) k2)
          · cases hS
        · cases hS
      · cases hS
    · exact o2.elim
/-! ### a caught exception is kept -/
theorem track {X : Cx} {pins : List (Addr × Obj)} {σ : L2.St} {H : Hp} {s : Shared} {a : Addr} {oe : Obj} {vs : Array Value} {cls : Value} (I : Inv X ((a, oe) :: pins) σ H s) (hz : Zc cls none oe) (hd : oe.data = .fields vs) (n0 : X.s_0.heap.get? a = none) (np : ∀ p ∈ X.pn ++ pins, p.1 ≠ a) (hex : X.ex = []) : Inv X pins σ (upd H a (XcO cls a)) s := by
  obtain ⟨ga, na, nL, nF, nc⟩ := I.pin (a, oe) (List.mem_append.mpr (.inr List.mem_cons_self))
  have neC : ∀ x b, X.env.cells.lookup x = some b → b ≠ a := fun x b e z => by
    obtain ⟨v, ob, g, dd⟩ := I.cell x b e
    have g2 := g
    rw [z] at g2
    have e2 : oe = ob := Option.some.inj (ga.symm.trans g2)
    exact nc v (by rw [e2]; exact dd)
  refine ⟨I.ok, I.os, I.bare, ⟨I.base.keep, I.base.slot, fun b o e n hx => ?_, I.base.there, fun b xs e => ?_, fun b o u e => ?_, fun b ps e => ?_⟩, I.loc, I.cell, ?_, fun x b e => ?_, fun p hp => ?_, ?_, I.len⟩
  · rw [upd_ne (fun z => by rw [z, n0] at e; cases e)]; exact I.base.free b o e n hx
  · have q := I.base.tups b xs e
    rw [upd_ne (ne_of_none q na)]; exact q
  · have q := I.base.frzs b o u e
    rw [upd_ne (ne_of_none q na)]; exact q
  · obtain ⟨m, q⟩ := I.base.tbls b ps e
    exact ⟨m, by rw [upd_ne (ne_of_none q na)]; exact q⟩
  · rw [upd_ne (Ne.symm nL)]; exact I.free
  · rw [upd_ne (neC x b e)]; exact I.freeC x b e
  · obtain ⟨z1, z2, z3⟩ := I.pin p (by
      rcases List.mem_append.mp hp with hp | hp
      · exact List.mem_append_left _ hp
      · exact List.mem_append_right _ (List.mem_cons_of_mem _ hp))
    exact ⟨z1, by rw [upd_ne (np p hp)]; exact z2, z3⟩
  · exact HOk.laidN I.hok (fun _ _ q => q) na ⟨⟨oe, vs, ga, hz, hd⟩, ⟨oe, ga⟩, fun h1 h2 ⟨o, v, q, r⟩ kk => ⟨o, v, kk o q, r⟩⟩
/-- what is wished of an exception in the body -/
def wKeep (K : PySem.W.Frag) (c0 : Value) (i j : Nat) (Dn : Ends) : WX := fun cls d σ H => PySem.W.exmOne K cls c0 = some true ∧ d = none ∧ ∀ a, H a = none → Dn.nx (((σ.set i (some (.ref a))).set j (some (.ref a))).set i none) (upd H a (XcO cls a))
theorem ps_try_keep {X : Cx} {x n y : Str} {c0 : Value} {i j : Nat} {body : List Stmt} {p1 p2 p3 p4 p5 p6 : Pos} {tb : WX → TS} (sx : SX X) (hN : X.N.Nodup) (hi : X.N[i]? = some n) (hln : X.env.scope.names.lookup n = some .local) (hj : X.N[j]? = some y) (hly : X.env.scope.names.lookup y = some .local) (hij : i ≠ j) (n1 : (n == ("__debug__" : Str)) = false) (n2 : (n == ("__classdict__" : Str)) = false) (hc : Names X x c0)
    (hb : ∀ (W : WX) (pn : List (Addr × Obj)) (xe : Value → Shared → Prop), Takes (X.tr pn xe) W → PassesOwn (model X.prog X.w) X.A X.env xe → PSs (X.tr pn xe) body (tb W)) :
    PS X (.Try body [.ExceptHandler (some (.Name x p1)) (some n) [.Assign [.Name y p2] (.Name n p3) p4] p5] [] [] p6) (fun Dn σ H => tb (wKeep X.K c0 i j Dn) Dn σ H) := by
  refine ⟨fun pins s σ H Dn I h => ?_⟩
  have ok := I.ok
  have fr : X.A.frames = some (X.env :: X.outer) := by rw [ok.frames, sx.stk]
  refine wpAny_Try_except (wpAny_mono ((hb (wKeep X.K c0 i j Dn) (X.pn ++ pins) (fun e t1 => wpAny (model X.prog X.w) X.A (noteFrame e X.env) (fun _ t2 => wpAny (model X.prog X.w) X.A (setFlight e none) (fun _ t3 => wpAny (model X.prog X.w) X.A (handleBy e X.env [.ExceptHandler (some (.Name x p1)) (some n) [.Assign [.Name y p2] (.Name n p3) p4] p5]) (SP X pins Dn) X.xe t3) X.xe t2) X.xe t1) (fun u t xx => ?_) PassesOwn.looking).run [] s σ H Dn (I.toTry _) h) (fun f t1 hsp => ?_) fun _ _ z => z)
  · obtain ⟨a, B, sI, pins', τ, H', cls, d, rfl, J0, nb, up, sky, na, os, ag, hx, rfl, hq⟩ := xx
    have J : Inv X pins τ H' sI := J0.ofTry ok
    refine (show wpAny (model X.prog X.w) X.A (noteFrame (.ref a) X.env) _ _ _ from Sky.land Zc.steady fr sx.fr (by rw [← sx.stk]; exact sky) fun h3 fl3 up3 => ?_)
    have J3 : Inv X pins τ H' { t with heap := h3 } := J.landed nb fl3.1 (up.trans up3) os ag
    obtain ⟨o3, v3, g3, z3, d3⟩ := fl3.there
    have nB : B.get? a = none := fl3.2.1
    have nfr : a ∉ frs (X.env :: X.outer) := fun hm => by
      obtain ⟨_, o', e', hnf⟩ := fl3.2.2.1.mem hm
      rw [g3] at e'; cases e'
      exact hnf _ d3
    have nL : a ≠ X.env.locals := fun z => nfr (List.mem_filterMap.mpr ⟨X.env, List.mem_cons_self, by rw [sx.fr, z]⟩)
    have nF : a ∉ X.fs := fun hm => by
      obtain ⟨e, he, q⟩ := List.mem_filterMap.mp hm
      exact nfr (List.mem_filterMap.mpr ⟨e, List.mem_cons_of_mem _ he, q⟩)
    have gone : ∀ b o, sI.heap.get? b = some o → b ∉ frs X.stack → b ≠ a := fun b o e1 e2 z => by
      have q := nb b o e1 e2
      rw [z, nB] at q; cases q
    have n0 : X.s_0.heap.get? a = none := by
      cases e : X.s_0.heap.get? a with
      | none => rfl
      | some o =>
        obtain ⟨o', q⟩ := J.base.there a o e (by rw [sx.ex]; exact fun z => nomatch z)
        exact absurd rfl (gone a o' q (by rw [sx.stk]; exact nfr))
    have np : ∀ p ∈ X.pn ++ pins, p.1 ≠ a := fun p hp z => by
      obtain ⟨q1, q2, q3, q4, _⟩ := J.pin p hp
      refine gone p.1 p.2 q1 (fun hm => ?_) z
      rw [z, sx.stk] at hm
      exact nfr hm
    have S3 := J3.suite g3 d3 na nL nF
    refine wpAny_handleBy_cons (codeAny_handlers_test ?_) (fun q => nomatch q)
    have LT : PySem.W.Looks (model X.prog X.w) h3 (typeOf (.ref a)) cls := fun A Q E t kk q => wpAny_typeOf_ref (kk _ _ g3) (by rw [z3.1]; exact q)
    have LM := PySem.W.exm_one (M := model X.prog X.w) J3.kIn LT hx
    have test : ∀ {Q : Value → Shared → Prop} {E : Value → Shared → Prop}, Q c0 { t with heap := h3 } → wpAny (model X.prog X.w) (X.A.mark (some (.ref a))) (eval (.Name x p1) X.env) Q E { t with heap := h3 } := fun {Q E} q => by
      obtain ⟨e1, e2, e3 | ⟨e3, e4, e5⟩⟩ := hc
      · exact ld_glob (X := X.suite a ((a, o3) :: (X.pn ++ pins))) S3 e1 e3 q e2
      · exact ld_blt (X := X.suite a ((a, o3) :: (X.pn ++ pins))) S3 e1 e3 e4 q e5 e2
    refine test (LM.here (codeAny_handlers_suite_as (HandSPX.lands_againZ fl3 fun h4 fl4 up4 => ?_)))
    have J4 : Inv X pins τ H' { t with heap := h4 } := J.landed nb fl4.1 ((up.trans up3).trans up4) os ag
    obtain ⟨o4, v4, g4, z4, d4⟩ := fl4.there
    have S4 := J4.suite g4 d4 na nL nF
    refine store_ok (X := X.suite a ((a, o4) :: (X.pn ++ pins))) (v := .ref a) S4 hN hi (.inl hln) rfl (fun t5 S5 => ?_) (.inr hln)
    have hil : i < τ.length := by rw [J.len]; exact (List.getElem?_eq_some_iff.mp hi).1
    have pv : PE (X.suite a ((a, o4) :: (X.pn ++ pins))) (.Name n p3) (tVar i) := pe_var (X := X.suite a ((a, o4) :: (X.pn ++ pins))) hi (.inl hln) n1 n2
    have pst := pss_one (ps_set (X := X.suite a ((a, o4) :: (X.pn ++ pins))) (i := j) (pos := p4) (pos' := p2) hN hj (.inl hly) pv (by rfl) (.inr hly))
    refine wpAny_mono (pst.run [] t5 _ H' { nx := fun σ6 H6 => σ6 = (τ.set i (some (.ref a))).set j (some (.ref a)) ∧ H6 = H', rt := fun _ _ => False, bk := fun _ _ => False, ct := fun _ _ => False } S5 ?_) (fun f t6 hsp => ?_) fun _ _ z => z.elim
    · exact ⟨.ref a, by rw [List.getElem?_set_self hil], rfl, rfl⟩
    · cases f with
      | next =>
        obtain ⟨σ6, H6, S6, rfl, rfl⟩ := hsp
        obtain ⟨q1, q2, q3, q4, q5⟩ := S6.pin (a, o4) (List.mem_append_left _ List.mem_cons_self)
        have J6 := (S6.unsuite ok).pins_of (pins' := (a, o4) :: pins) fun p hp => by
          rcases List.mem_cons.mp hp with rfl | hp
          · exact ⟨q1, q2, q3, q4, q5⟩
          · exact (S6.unsuite (pins := pins) ok).pin p (List.mem_append_right _ hp)
        refine gone_ok J6 hN hi hln fun t7 J7 => ?_
        exact ⟨_, _, track J7 z4 d4 n0 np sx.ex, hq a na⟩
      | brk => obtain ⟨_, _, _, z⟩ := hsp; exact z.elim
      | cont => obtain ⟨_, _, _, z⟩ := hsp; exact z.elim
      | ret u => obtain ⟨_, _, _, _, _, z⟩ := hsp; exact z.elim
  · cases f with
    | next => obtain ⟨τ, H', J, q⟩ := hsp; exact wpAny_execs_nil ⟨τ, H', J.ofTry ok, q⟩
    | brk => obtain ⟨τ, H', J, q⟩ := hsp; exact ⟨τ, H', J.ofTry ok, q⟩
    | cont => obtain ⟨τ, H', J, q⟩ := hsp; exact ⟨τ, H', J.ofTry ok, q⟩
    | ret u => obtain ⟨v, τ, H', J, r, q⟩ := hsp; exact ⟨v, τ, H', J.ofTry ok, r, q⟩
/-! ### the body of a try: one statement, whose exceptions leave the slots as they were -/
def OutS1 (c : Cfg) (W : WX) (σ : L2.St) (H : Hp) (w : Wl c) (Dn : Ends) : SR → Prop
  | .exc x S' => ∀ H' (w' : Wl c), Ext H w H' w' → w'.S = S' → Wok H' w' → W (c.cv x) none σ H'
  | .bad => False
  | .ok q S' => OutS c WF H w Dn (.ok q S')
def rdS1 (c : Cfg) (W : WX) (f : Env → Store → SR) : TS := fun Dn σ H => ∃ w : Wl c, ∃ r, Wok H w ∧ ER H w r σ ∧ OutS1 c W σ H w Dn (f r w.S)
theorem OutS.wf {W W' : WX} {H : Hp} {w : Wl c} {Dn : Ends} {q : Fl × Env} {S' : Store} (o : OutS c W H w Dn (.ok q S')) : OutS c W' H w Dn (.ok q S') := by
  obtain ⟨f, r⟩ := q
  cases f <;> exact o
section
variable {W : WX} {σ : L2.St} {H H1 : Hp} {w w1 : Wl c} {Dn : Ends}
theorem OutS1.trans {r : SR} (o : OutS1 c W σ H w Dn r) (x : Ext H w H1 w1) : OutS1 c W σ H1 w1 Dn r := by
  cases r with
  | bad => exact o
  | exc n S' => exact fun H' w' y e kk => o H' w' (x.trans y) e kk
  | ok q S' => exact OutS.trans (r := .ok q S') o x
theorem OutS1.bind {Q' : VK} {r : Res D} {f : D → Store → SR} (o : OutS1 c W σ H w Dn (r.bind f))
    (h : ∀ d H1 w1 v, Ext H w H1 w1 → Wok H1 w1 → Rp H1 w1 v d → OutS1 c W σ H1 w1 Dn (f d w1.S) → Q' v H1) : OutE c W σ H w Q' r := by
  cases r with
  | bad => exact o
  | ok d S' =>
    intro H' w' v x e kk rp
    subst e
    exact h d H' w' v x kk rp (OutS1.trans (r := f d w'.S) o x)
  | exc n S' => exact fun H' w' x e kk => o H' w' x e kk
theorem OutS1.bindT {Q' : Bool → Hp → Prop} {r : Res D} {f : D → Store → SR} (o : OutS1 c W σ H w Dn (r.bind f)) (hb : ∀ d S', r = .ok d S' → tru d = none → f d S' = .bad)
    (h : ∀ b H1 w1, Ext H w H1 w1 → Wok H1 w1 → OutS1 c W σ H1 w1 Dn (f (.bool b) w1.S) → Q' b H1) : OutT c W σ H w Q' r := by
  cases r with
  | bad => exact o
  | ok d S' =>
    cases e : tru d with
    | none =>
      have := hb d S' rfl e
      have o : OutS1 c W σ H w Dn (f d S') := o
      rw [this] at o
      exact o.elim
    | some b =>
      have := tru_eq e
      subst this
      refine ⟨b, rfl, fun H' w' x es kk => ?_⟩
      subst es
      exact h b H' w' x kk (OutS1.trans (r := f (.bool b) w'.S) o x)
  | exc n S' => exact fun H' w' x e kk => o H' w' x e kk
end
theorem snd1_exp (e : E) {X : Cx} {cx : SC} {W : WX} {x : Stmt} (ox : XO nm c G C k X cx W) (h : okS nm cx (.exp e) x = true) : PS X x (rdS1 c W (ex G C (.exp e))) := by
  cases x <;> first | exact Bool.noConfusion (show false = true from h) | skip
  rename_i e' pos
  simp only [okS, Bool.and_eq_true] at h
  obtain ⟨⟨h1, h2⟩, h3⟩ := h
  have hs : swapsWith e' none pos.line X.env = pure false := by
    cases e' <;> first | rfl | exact Bool.noConfusion (show false = true from h1) | exact Bool.noConfusion (show false = true from h2)
  refine PS.imp (ps_expr ((sndE e).pe X cx W false e' ox h3) hs) fun Dn σ H ⟨w, r, kk, er, out⟩ => ?_
  refine ⟨w, r, kk, er, OutS1.bind out fun d H1 w1 v x1 k1 r1 o1 => ?_⟩
  exact o1 σ H1 w1 .refl rfl k1 (er.ext x1 kk)
theorem snd1_exps (e : E) {X : Cx} {cx : SC} {W : WX} {x : List Stmt} (ox : XO nm c G C k X cx W) (h : okSs nm cx (.cons (.exp e) .nil) x = true) : PSs X x (rdS1 c W (exs G C (.cons (.exp e) .nil))) := by
  rcases okSs_cons h with ⟨i, q, h⟩ | ⟨y, ys, rfl, h1, h2⟩
  · cases q
  · cases ys with
    | cons _ _ => exact Bool.noConfusion (show false = true from h2)
    | nil =>
      refine PSs.imp (pss_one (snd1_exp e ox h1)) fun Dn σ H ⟨w, r, kk, er, out⟩ => ⟨w, r, kk, er, ?_⟩
      simp only [exs] at out
      match hr : ex G C (.exp e) r w.S with
      | .bad => rw [hr] at out; exact out
      | .exc n S' => rw [hr] at out; exact out
      | .ok (.nx, r') S' => rw [hr] at out; exact out
      | .ok (.rt d, r') S' => rw [hr] at out; exact out
      | .ok (.bk, r') S' => rw [hr] at out; exact out
theorem snd1 : ∀ (s : MP.S), isS1 s = true → ∀ {X : Cx} {cx : SC} {W : WX} {x : Stmt}, XO nm c G C k X cx W → okS nm cx s x = true → PS X x (rdS1 c W (ex G C s)) := by
  intro s hs X cx W x ox h
  match s, hs with
  | .exp e, _ => exact snd1_exp e ox h
  | .asg (.nm i) e, hs =>
    cases x <;> first | exact Bool.noConfusion (show false = true from h) | skip
    rename_i ts e' pos
    match ts, h with
    | [t'], h =>
      simp only [okS, Bool.and_eq_true, Bool.or_eq_true, decide_eq_true_eq] at h
      obtain ⟨⟨⟨⟨h1, h2⟩, h3⟩, h4⟩, h5⟩ := h
      have hw : swappedStores [t'] e' X.env = pure none := swC_ok (by rw [ox.sc]; exact h3)
      have hb : swB cx.sc t' e' = false := by
        rcases h5 with h5 | h5
        · simpa using h5
        · have hs : (!isLC e) = true := hs
          rw [h5.1] at hs
          cases hs
      have hsw : swapsWithSole [t'] e' pos.line X.env = pure false := by
        show swapsWith e' (some t') pos.line X.env = _
        rw [swB_ok h2, ox.sc, hb]
      refine PS.imp (ps_asg ((sndE e).pe X cx W false e' ox h4) (snd_tg ox (.nm i) t' h1) hsw hw (okT_map h1)) fun Dn σ H ⟨w, r, kk, er, out⟩ => ?_
      refine ⟨w, r, kk, er, OutS1.bind out fun d H1 w1 v x1 k1 r1 o1 => ?_⟩
      have o1 : OutS1 c W σ H1 w1 Dn (.ok (.nx, r.set i (some d)) w1.S) := o1
      exact ⟨w1, r, d, _, k1, er.ext x1 kk, r1, rfl, fun σ' er' _ => o1 σ' H1 w1 .refl rfl k1 er'⟩
  | .ite t (.cons (.exp a) .nil) (.cons (.exp b) .nil), _ =>
    cases x <;> first | exact Bool.noConfusion (show false = true from h) | skip
    rename_i t' a' b' pos
    simp only [okS, Bool.and_eq_true] at h
    obtain ⟨⟨h1, h2⟩, h3⟩ := h
    refine PS.imp (ps_if ((sndE t).pt X cx W t' ox h1) (snd1_exps a ox h2) (snd1_exps b ox h3)) fun Dn σ H ⟨w, r, kk, er, out⟩ => ?_
    refine ⟨w, r, kk, er, OutS1.bindT out (fun d S' _ e => by rw [e]) fun b H1 w1 x1 k1 o1 => ?_⟩
    cases b with
    | true => exact iteT ⟨w1, r, k1, er.ext x1 kk, o1⟩
    | false => exact iteF ⟨w1, r, k1, er.ext x1 kk, o1⟩
theorem ER.none {H : Hp} {w : Wl c} {r : Env} {σ : L2.St} (e : ER H w r σ) (i : Nat) : ER H w (r.set i none) (σ.set i none) := by
  refine ⟨by rw [List.length_set, List.length_set]; exact e.1, fun j d hj => ?_⟩
  by_cases hij : i = j
  · subst hij
    by_cases hl : i < r.length
    · rw [List.getElem?_set_self hl] at hj; cases hj
    · rw [List.getElem?_eq_none (by rw [List.length_set]; omega)] at hj; cases hj
  · rw [List.getElem?_set_ne hij] at hj
    obtain ⟨u, h1, h2⟩ := e.2 j d hj
    exact ⟨u, by rw [List.getElem?_set_ne hij]; exact h1, h2⟩
theorem snds_tri (s : MP.S) (i j : Nat) : SndS nm c G C k (.tri s i j) := by
  intro X cx W st ox hp h
  have h : (match tryOf st with
    | some q => nm.x8 && isS1 s && okS nm cx s q.b && decide (nm.cls 0 = some q.x) && glB cx.sc q.x && !(q.x == ("__debug__" : Str)) && decide (cx.N[i]? = some q.n) && isLocB cx.sc q.n && decide (cx.N[j]? = some q.y) && isLocB cx.sc q.y && decide (q.z = q.n) && decide (i ≠ j) && !(q.n == ("__debug__" : Str)) && !(q.n == ("__classdict__" : Str))
    | none => false) = true := by
    cases st <;> exact h
  cases hq : tryOf st with
  | none => rw [hq] at h; cases h
  | some q =>
    rw [hq] at h
    simp only [Bool.and_eq_true, decide_eq_true_eq, Bool.not_eq_true'] at h
    obtain ⟨⟨⟨⟨⟨⟨⟨⟨⟨⟨⟨⟨⟨h8, h1⟩, h2⟩, h3⟩, h4⟩, h5⟩, h6⟩, h7⟩, h9⟩, h10⟩, h11⟩, h12⟩, h13⟩, h14⟩ := h
    have est := tryOf_eq hq
    rw [h11] at est
    subst est
    obtain ⟨Ca, g1, g2, g3, g4, g5, g6⟩ := ox.tb.ex 0 q.x h3
    have hN : Names X q.x (c.cv 0) := ⟨gl_of ox.sc h4, h5, .inl (by rw [g6]; exact g1)⟩
    refine PS.imp (ps_try_keep (tb := fun W => rdS1 c W (ex G C s)) hp ox.nd (by rw [ox.N]; exact h6) (by rw [ox.sc]; exact isLoc_of h7) (by rw [ox.N]; exact h9) (by rw [ox.sc]; exact isLoc_of h10) h12 h13 h14 hN fun W' pn xe tk hpo => ?_) fun Dn σ H ⟨w, r, kk, er, out⟩ => ?_
    · have ox2 : XO nm c G C k (X.tr pn xe) cx W' := ⟨ox.N, ox.nd, ox.sc, ox.fn, ox.calm, ox.roomS, ox.tb, tk⟩
      exact pss_one (snd1 s h1 ox2 h2)
    · refine ⟨w, r, kk, er, ?_⟩
      simp only [ex] at out
      match hr : ex G C s r w.S with
      | .bad => rw [hr] at out; exact out
      | .ok q S' => rw [hr] at out; exact OutS.wf out
      | .exc n S' =>
        rw [hr] at out
        intro H' w' x1 e1 k1
        subst e1
        simp only at out
        split at out
        · rename_i hn
          obtain ⟨Cb, c1, c2, c3, c4, c5⟩ := ox.tb.x8 h8 n hn
          refine ⟨by rw [c1]; exact c4, rfl, fun a ha => ?_⟩
          have x2 : Ext H' w' (upd H' a (XcO (c.cv n) a)) w' := ext_new ha
          have k2 : Wok (upd H' a (XcO (c.cv n) a)) w' := k1.new ha
          have rx : Rp (upd H' a (XcO (c.cv n) a)) w' (.ref a) (xcv n) := .exv upd_same (k1.fresh ha)
          refine out _ _ w' (x1.trans x2) rfl k2 ?_
          have er2 := ((er.ext x1 kk).ext x2 k1).set rx j
          have e3 := er2.none i
          have es : ((σ.set i (some (.ref a))).set j (some (.ref a))).set i none = ((σ.set j (some (V.ref a))).set i none) := by
            rw [List.set_comm _ _ h12, List.set_set]
          rw [es]
          exact e3
        · exact out.elim
end MP
end

section
set_option Elab.async false
set_option linter.all false
set_option maxRecDepth 100000
set_option maxHeartbeats 4000000
set_option autoImplicit false
namespace MP
open PySem L2 PySem.Spec PyProof.Rows
variable {nm : Nm} {c : Cfg} {G : Nat → Option D} {C : Call} {k : Nat}
theorem parB_nil {cx : SC} {ts : List Expr} (h : parB cx [] ts = true) : ts = [] := by
  cases ts with
  | nil => rfl
  | cons x xs => exact Bool.noConfusion (show false = true from h)
theorem parB_cons {cx : SC} {i : Nat} {is : List Nat} {ts : List Expr} (h : parB cx (i :: is) ts = true) : ∃ x p xs, ts = .Name x p :: xs ∧ cx.N[i]? = some x ∧ isLocB cx.sc x = true ∧ i ∉ is ∧ parB cx is xs = true := by
  cases ts with
  | nil => exact Bool.noConfusion (show false = true from h)
  | cons t ts =>
    cases t <;> first | exact Bool.noConfusion (show false = true from h) | skip
    rename_i x p
    simp only [parB, Bool.and_eq_true, decide_eq_true_eq, Bool.not_eq_true'] at h
    obtain ⟨⟨⟨a1, a2⟩, a3⟩, a4⟩ := h
    exact ⟨x, p, ts, rfl, a1, a2, by simpa using a3, a4⟩
theorem snds_par (is : List Nat) (es : Es) : SndS nm c G C k (.par is es) := by
  intro X cx W x ox hp h
  cases x <;> first | exact Bool.noConfusion (show false = true from h) | skip
  rename_i ts e' pos
  match ts, e', h with
  | [.Tuple ts' kt pt], .Tuple es' k2 pt2, h =>
    simp only [okS, Bool.and_eq_true, Bool.or_eq_true, decide_eq_true_eq] at h
    obtain ⟨⟨⟨⟨h1, h2⟩, h3⟩, h4⟩, h5⟩ := h
    have hw : swappedStores [.Tuple ts' kt pt] (.Tuple es' k2 pt2) X.env = pure (some (nms ts')) := by
      refine swC_ok ?_
      rw [ox.sc]
      show swC cx.sc (.Tuple ts' 0 ⟨0, 0, 0, 0⟩) (.Tuple es' 0 ⟨0, 0, 0, 0⟩) = _
      split at h5
      · rename_i l hl
        rw [hl, of_decide_eq_true h5]
      · cases h5
    have pa := (sndEs es).pa X cx W es' ox h3
    match is, h1, h2 with
    | [i, j], _, h2 =>
      obtain ⟨x, px, ts2, rfl, a1, a2, a3, h2⟩ := parB_cons h2
      obtain ⟨y, py, ts3, rfl, b1, b2, b3, h2⟩ := parB_cons h2
      have := parB_nil h2
      subst this
      match es', h4 with
      | [a', b'], _ =>
        have hij : i ≠ j := fun e => by subst e; simp at a3
        refine PS.imp (ps_par ox.calm ox.nd (by rw [ox.N]; exact a1) (by rw [ox.N]; exact b1) hij (by rw [ox.sc]; exact isLoc_of a2) (by rw [ox.sc]; exact isLoc_of b2) pa hw rfl) fun Dn σ H ⟨w, r, kk, er, out⟩ => ?_
        refine ⟨w, r, kk, er, out.bindA fun ds H1 w1 vs x1 k1 r1 o1 => ?_⟩
        obtain ⟨q, hq, o1⟩ := o1.ofO
        simp only [Option.map_eq_some_iff] at hq
        obtain ⟨r', hr, rfl⟩ := hq
        match ds, hr, r1 with
        | [d, e], hr, r1 =>
          obtain ⟨v, u, rfl, rv, ru⟩ := r1.two
          simp only [setAll, Option.some.injEq] at hr
          subst hr
          exact ⟨v, u, rfl, o1 _ H1 w1 .refl rfl k1 (((er.ext x1 kk).set rv i).set ru j)⟩
    | [i, j, l], _, h2 =>
      obtain ⟨x, px, ts2, rfl, a1, a2, a3, h2⟩ := parB_cons h2
      obtain ⟨y, py, ts3, rfl, b1, b2, b3, h2⟩ := parB_cons h2
      obtain ⟨z, pz, ts4, rfl, c1, c2, c3, h2⟩ := parB_cons h2
      have := parB_nil h2
      subst this
      match es', h4 with
      | [a', b', c'], _ =>
        have hij : i ≠ j := fun e => by subst e; simp at a3
        have hil : i ≠ l := fun e => by subst e; simp at a3
        have hjl : j ≠ l := fun e => by subst e; simp at b3
        refine PS.imp (ps_par3 ox.calm ox.nd (by rw [ox.N]; exact a1) (by rw [ox.N]; exact b1) (by rw [ox.N]; exact c1) hij hil hjl (by rw [ox.sc]; exact isLoc_of a2) (by rw [ox.sc]; exact isLoc_of b2) (by rw [ox.sc]; exact isLoc_of c2) pa hw rfl) fun Dn σ H ⟨w, r, kk, er, out⟩ => ?_
        refine ⟨w, r, kk, er, out.bindA fun ds H1 w1 vs x1 k1 r1 o1 => ?_⟩
        obtain ⟨q, hq, o1⟩ := o1.ofO
        simp only [Option.map_eq_some_iff] at hq
        obtain ⟨r', hr, rfl⟩ := hq
        match ds, hr, r1 with
        | [d, e, f], hr, r1 =>
          obtain ⟨v, u, t, rfl, rv, ru, rt⟩ := r1.three
          simp only [setAll, Option.some.injEq] at hr
          subst hr
          exact ⟨v, u, t, rfl, o1 _ H1 w1 .refl rfl k1 ((((er.ext x1 kk).set rv i).set ru j).set rt l)⟩
/-! ### o[i] = e -/
def rSetD (c : Cfg) : TSet := fun o i v H Q => ∃ w : Wl c, ∃ d e f S', Wok H w ∧ Rp H w o d ∧ Rp H w i e ∧ Rp H w v f ∧ setIx w.S d e f = some S' ∧ ∀ H' w', Ext H w H' w' → w'.S = S' → Wok H' w' → Q H'
theorem set_D {X : Cx} (hw : X.w = c.wd) (hu : X.A.units + 64 < cLine) : PSet X (rSetD c) := by
  intro pins s σ H o i v ov iv u Q I ro ri rv h
  obtain ⟨w, d, e, f, S', kk, rd, re, rf', hS, q⟩ := h
  unfold setIx at hS
  split at hS
  · rename_i n en
    have := asRef_eq en
    subst this
    obtain ⟨a, rfl, ha⟩ := rd.ref_inv
    split at hS
    · rename_i xs hx
      split at hS
      · rename_i kx
        simp only [Option.map_eq_some_iff] at hS
        obtain ⟨j, hj, rfl⟩ := hS
        obtain ⟨us, h1, h2⟩ := kk.obj n a _ ha hx
        exact set_list pins s σ H _ i v ov iv u Q I ro ri rv ⟨a, us, kx, j, rfl, re.int_inv, h1, by rw [h2.length]; exact hj, q _ _ (store_ext kk ha hx rfl (fun _ => by simp)) rfl (store_wok kk ha hx rfl (h2.set rf' j))⟩
      · cases hS
    · rename_i kvs hx
      split at hS
      · rename_i hb
        cases hS
        simp only [Bool.and_eq_true, decide_eq_true_eq] at hb
        obtain ⟨xs, h1, r⟩ := kk.obj n a _ ha hx
        obtain ⟨k0, hk0, hd, ds, rfl⟩ := keyOk_inv hb.1
        obtain ⟨b1, us, rfl, h2, h3⟩ := re.tup_inv
        cases ro; cases ri
        obtain ⟨g1, g2, ys, g3, g4, g5⟩ := dct_at hw I h1 r
        obtain ⟨n1, n2⟩ := nest_of I _ hk0 re rfl
        have hl : ys.length = kvs.length := g3.len.symm.trans r.len
        refine wpAny_setItem_heap (knd := nestedKind X.prog X.w) (k := k0) (by show X.A.units + 1 + 8 < cLine; omega) ⟨n1, by omega⟩ g5 (fun h' hm hs => ?_) (by rw [hl, ← big_eq]; omega)
        obtain ⟨xs', z1, z2, z3⟩ := put_at hb.1 hk0 re rf' rv r g3 g4
        obtain ⟨ob, es, ep, e1, _⟩ := id hm
        refine ⟨upd H a (DcO c.wd a xs'), I.write (x := a) (e := a) (by rw [h1]; trivial) (.inl rfl) (fun b u hb hu => (hs.2 b hb).trans hu) ⟨_, e1⟩ ?_, ?_⟩
        · rw [← hw]
          exact dcO_ok g1 (by rw [← big_eq]; have := r.len; omega) z1 hm
        · exact q _ ({ w with S := w.S.set n (.dct (setIx.putD kvs (.tuple ds) f)) } : Wl c) (store_ext kk ha hx rfl (fun _ => by simp)) rfl (store_wokO kk ha hx rfl ⟨xs', upd_same, z2.mv (store_mv kk ha hx rfl)⟩)
      · cases hS
    · cases hS
  · cases hS
theorem snds_aset (o i e : E) : SndS nm c G C k (.aset o i e) := by
  intro X cx W x ox hp h
  cases x <;> first | exact Bool.noConfusion (show false = true from h) | skip
  rename_i ts e' pos
  match ts, h with
  | [.Subscript o' i' sp], h =>
    simp only [okS, Bool.and_eq_true, Bool.not_eq_true'] at h
    obtain ⟨⟨⟨⟨⟨h1, h2⟩, h3⟩, h4⟩, h5⟩, h6⟩ := h
    have hsw : swapsWithSole [.Subscript o' i' sp] e' pos.line X.env = pure false := by
      show swapsWith e' (some (.Subscript o' i' sp)) pos.line X.env = _
      rw [swB_ok h1, ox.sc]
      have : swB cx.sc (.Subscript o' i' sp) e' = swB cx.sc (.Subscript o' i' ⟨0, 0, 0, 0⟩) e' := by cases e' <;> rfl
      rw [this, h2]
    refine PS.imp (ps_asg ((sndE e).pe X cx W false e' ox h6) (pg_sub ((sndE o).pe X cx W false o' ox h4) ((sndE i).pe X cx W false i' ox h5) (set_D (c := c) ox.wd ox.room.units) (fun v => by cases i' <;> first | exact Bool.noConfusion (show false = true from h3) | rfl)) hsw (swC_ok (r := none) (by cases e' <;> rfl)) rfl) fun Dn σ H ⟨w, r, kk, er, out⟩ => ?_
    refine ⟨w, r, kk, er, out.bind fun d H1 w1 v x1 k1 r1 o1 => ?_⟩
    refine ⟨w1, r, k1, er.ext x1 kk, o1.bind fun d2 H2 w2 v2 x2 k2 r2 o2 => ?_⟩
    refine ⟨w2, r, k2, (er.ext x1 kk).ext x2 k1, o2.bind fun d3 H3 w3 v3 x3 k3 r3 o3 => ?_⟩
    split at o3
    · rename_i S4 hS
      exact ⟨w3, d2, d3, d, S4, k3, r2.ext x3 k2, r3, (r1.ext x2 k1).ext x3 k2, hS, fun H' w' x4 e4 k4 => o3 σ H' w' x4 e4 k4 ((((er.ext x1 kk).ext x2 k1).ext x3 k2).ext x4 k3)⟩
    · exact o3.elim
/-! ### x op= e -/
theorem ip_D {X : Cx} {W : WX} {σ : L2.St} (o : Bop) (h : o = .add ∨ o = .sub) : PIp X (bopOf o) (rOp false c W σ fun S a b => augD S o a b) := by
  rcases h with rfl | rfl
  · intro pins s σ' H x y v u Q I rx ry hh
    refine (iop_add.or iop_ext) pins s σ' H x y v u Q I rx ry ?_
    obtain ⟨w, d, e, kk, rd, re, out⟩ := hh
    simp only [augD] at out
    split at out
    all_goals try contradiction
    all_goals try (exact out.elim)
    · cases rd; cases re
      exact .inl ⟨_, _, rfl, rfl, out.valE kk (.int _)⟩
    · split at out
      · rename_i n en
        have := asRef_eq en
        subst this
        obtain ⟨a, rfl, ha⟩ := rd.ref_inv
        split at out
        · rename_i xs ys hx hy
          split at out
          · rename_i hb
            obtain ⟨us, h1, h2⟩ := kk.obj n a _ ha hx
            obtain ⟨b, vs, rfl, h3, h4⟩ := viewL_rp kk hy re
            exact .inr ⟨a, b, us, vs, rfl, rfl, h1, h3, by rw [h2.length, h4.length, ← big_eq]; exact hb, out _ _ (.ref a) (store_ext kk ha hx rfl (fun _ => by simp)) rfl (store_wok kk ha hx rfl (h2.append h4)) (.ref ha)⟩
          · exact out.elim
        · exact out.elim
      · exact out.elim
  · intro pins s σ' H x y v u Q I rx ry hh
    refine iop_sub pins s σ' H x y v u Q I rx ry ?_
    obtain ⟨w, d, e, kk, rd, re, out⟩ := hh
    simp only [augD] at out
    split at out
    all_goals try contradiction
    all_goals try (exact out.elim)
    cases rd; cases re
    exact ⟨_, _, rfl, rfl, out.valE kk (.int _)⟩
theorem snds_aug (i : Nat) (o : Bop) (e : E) : SndS nm c G C k (.aug i o e) := by
  intro X cx W x ox hp h
  cases x <;> first | exact Bool.noConfusion (show false = true from h) | skip
  rename_i t' p e' pos
  cases t' <;> first | exact Bool.noConfusion (show false = true from h) | skip
  rename_i y py
  simp only [okS, Bool.and_eq_true, Bool.or_eq_true, decide_eq_true_eq] at h
  obtain ⟨⟨⟨⟨⟨rfl, h1⟩, h2⟩, h3⟩, h4⟩, h5⟩ := h
  have ho : o = .add ∨ o = .sub := by cases o <;> simp at h4 <;> simp
  refine ⟨fun pins s σ H Dn I hh => (ps_aug (i := i) ox.nd (by rw [ox.N]; exact h1) (by rw [ox.sc]; exact loc_of h2) ((sndE e).pe X cx W false e' ox h5) (ip_D (c := c) (W := W) (σ := σ) o ho) ?_).run pins s σ H Dn I ?_⟩
  · rcases h3 with h3 | h3
    · exact .inl (by rw [ox.fn]; exact h3)
    · exact .inr (by rw [ox.sc]; exact isLoc_of h3)
  · obtain ⟨w, r, kk, er, out⟩ := hh
    simp only [ex] at out
    cases hg : getV r i with
    | none => rw [hg] at out; exact out.elim
    | some d =>
      rw [hg] at out
      obtain ⟨v, hv, rv⟩ := er.get hg
      refine ⟨v, hv, w, r, kk, er, OutS.bind out fun d2 H1 w1 u x1 k1 r1 o1 => ?_⟩
      refine ⟨w1, d, d2, k1, rv.ext x1 kk, r1, OutS.bind o1 fun d3 H2 w2 z x2 k2 r2 o2 => ?_⟩
      exact o2 _ H2 w2 .refl rfl k2 (((er.ext x1 kk).ext x2 k1).set r2 i)
/-! ### o[i] op= e -/
theorem get_D {X : Cx} {W : WX} {σ : L2.St} (hw : X.w = c.wd) (hu : X.A.units + 64 < cLine) : PGet X (rOp false c W σ fun S a b => ixD S a b) := by
  intro pins s σ' H x y v u Q I rx ry hh
  obtain ⟨w, d, e, kk, rd, re, o⟩ := hh
  simp only [ixD] at o
  split at o
  · rename_i xs i h1
    obtain ⟨z, hz, o⟩ := o.ofO
    obtain ⟨a, us, rfl, h2, h3⟩ := viewS_rp kk h1 rd
    obtain ⟨t, ht, rt⟩ := h3.atI hz
    cases rx
    have ei := re.int_inv
    subst ei
    obtain ⟨tk, rfl⟩ := ry
    obtain ⟨j, e1, e2, e3, e4, e5⟩ := atI_get ht
    have hn := line63
    rcases h2 with h2 | h2
    · obtain ⟨its, r, pl, hzz⟩ := I.list (SqL.of (K := X.K) h2)
      obtain ⟨w2, ew, rw'⟩ := r.get e2
      have hl := r.length
      have fin : EP X pins σ' Q w2 s := ⟨t, H, I, rw', o.valE kk rt⟩
      by_cases h0 : 0 ≤ i
      · have hj : i.toNat = j := by
          rw [seqIndex_of h0 e5] at e1
          exact Option.some.inj e1
        exact wpAny_getItem_list pl.isList h0 (by omega) (by rw [hj]; simpa using ew) fin
      · have hj : (i + (its.toArray.size : Int)).toNat = j := by
          rw [seqIndex_neg (by omega) e4] at e1
          rw [List.size_toArray, ← hl]
          exact Option.some.inj e1
        exact wpAny_getItem_list_neg pl.isList (by omega) (by rw [List.size_toArray] <;> omega) (by omega) (by rw [hj]; simpa using ew) fin
    · obtain ⟨its, r, pl, hzz⟩ := I.tuple (SqT.of (K := X.K) h2)
      obtain ⟨w2, ew, rw'⟩ := r.get e2
      have hl := r.length
      exact getItem_tuple (j := j) pl (by omega) (by omega) (by rw [List.size_toArray, ← hl]; exact e1) (by simpa using ew) ⟨t, H, I, rw', o.valE kk rt⟩
  · exact o.elim
  · split at o
    · rename_i n e1
      have := asRef_eq e1
      subst this
      split at o
      · rename_i kvs q
        obtain ⟨a, rfl, ha⟩ := rd.ref_inv
        obtain ⟨xs, h1, r⟩ := kk.obj n a _ ha q
        split at o
        · rename_i hk
          obtain ⟨vd, hf, o2⟩ := o.ofO
          obtain ⟨k0, hk0, hd, ds, rfl⟩ := keyOk_inv hk
          obtain ⟨b1, us, rfl, h2, h3⟩ := re.tup_inv
          cases rx; cases ry
          obtain ⟨g1, g2, ys, g3, g4, g5⟩ := dct_at hw I h1 r
          obtain ⟨n1, n2⟩ := nest_of I _ hk0 re rfl
          obtain ⟨ka, vv, uu, z1, z2, z3⟩ := (find_at hk0 r g3).2 vd hf
          exact wpAny_getItem_heap (knd := nestedKind X.prog X.w) (k := k0) (by show X.A.units + 1 + 8 < cLine; omega) ⟨n1, by omega⟩ g5 z1 ⟨vv, H, I.tok _, z2, o2.valE kk z3⟩
        · exact o.elim
      · exact o.elim
    · exact o.elim
theorem snds_augix (o i : E) (p : Bop) (e : E) : SndS nm c G C k (.augix o i p e) := by
  intro X cx W x ox hp h
  cases x <;> first | exact Bool.noConfusion (show false = true from h) | skip
  rename_i t' p' e' pos
  cases t' <;> first | exact Bool.noConfusion (show false = true from h) | skip
  rename_i o' i' tp
  simp only [okS, Bool.and_eq_true, decide_eq_true_eq] at h
  obtain ⟨⟨⟨⟨⟨rfl, h3⟩, h4⟩, h5⟩, h6⟩, h7⟩ := h
  have ho : p = .add ∨ p = .sub := by cases p <;> simp at h4 <;> simp
  refine ⟨fun pins s σ H Dn I hh => (ps_augS ((sndE o).pe X cx W false o' ox h5) ((sndE i).pe X cx W false i' ox h6) (get_D (c := c) (W := W) (σ := σ) ox.wd ox.room.units) ((sndE e).pe X cx W false e' ox h7) (ip_D (c := c) (W := W) (σ := σ) p ho) (set_D (c := c) ox.wd ox.room.units) (fun ov iv new => by cases i' <;> first | exact Bool.noConfusion (show false = true from h3) | rfl)).run pins s σ H Dn I ?_⟩
  obtain ⟨w, r, kk, er, out⟩ := hh
  simp only [ex] at out
  refine ⟨w, r, kk, er, OutS.bind out fun y H1 w1 v1 x1 k1 r1 o1 => ?_⟩
  refine ⟨w1, r, k1, er.ext x1 kk, OutS.bind o1 fun z H2 w2 v2 x2 k2 r2 o2 => ?_⟩
  refine ⟨w2, y, z, k2, r1.ext x2 k1, r2, OutS.bind o2 fun a H3 w3 v3 x3 k3 r3 o3 => ?_⟩
  refine ⟨w3, r, k3, ((er.ext x1 kk).ext x2 k1).ext x3 k2, OutS.bind o3 fun b H4 w4 v4 x4 k4 r4 o4 => ?_⟩
  refine ⟨w4, a, b, k4, r3.ext x4 k3, r4, OutS.bind o4 fun u H5 w5 v5 x5 k5 r5 o5 => ?_⟩
  split at o5
  · rename_i S6 hS
    exact ⟨w5, y, z, u, S6, k5, (((r1.ext x2 k1).ext x3 k2).ext x4 k3).ext x5 k4, ((r2.ext x3 k2).ext x4 k3).ext x5 k4, r5, hS, fun H' w' x6 e6 k6 => o5 σ H' w' x6 e6 k6 ((((((er.ext x1 kk).ext x2 k1).ext x3 k2).ext x4 k3).ext x5 k4).ext x6 k5)⟩
  · exact o5.elim
/-! ### for, while -/
theorem snds_for (tg : Tg) (it : MP.Itr) {body : Ss} (hb : SndSs nm c G C k body) : SndS nm c G C k (.for_ tg it body) := by
  intro X cx W x ox hp h
  cases x <;> first | exact Bool.noConfusion (show false = true from h) | skip
  rename_i t' it' body' els pos
  cases els with
  | cons _ _ => exact Bool.noConfusion (show false = true from h)
  | nil =>
    simp only [okS, Bool.and_eq_true] at h
    obtain ⟨⟨h1, h2⟩, h3⟩ := h
    obtain ⟨pi, hf⟩ := (sndJ (nm := nm) (c := c) (G := G) (C := C) (k := k) it) X cx W t' it' ox h1
    refine PS.imp (ps_for hp.pass ox.calm pi (snd_tg ox tg t' h2) (hb X cx W body' ox hp h3) (fine_set hf)) fun Dn σ H ⟨w, r, kk, er, out⟩ => ?_
    refine ⟨w, r, kk, er, ?_⟩
    simp only [ex] at out
    cases hr : evj G C it r w.S with
    | bad => rw [hr] at out; exact out
    | exc n S' => rw [hr] at out; exact fun H' w' x e k1 => out σ H' w' x e k1
    | ok d S1 =>
      rw [hr] at out
      simp only [Res.bind] at out
      have fin : ∀ items, viewS S1 d = some items → lock S1 d = S1 → OutS c W H w Dn (forL (fun x r' S' => match bindTg tg x r' with
          | some r2 => exs G C body r2 S'
          | none => .bad) items r S1) → OutJ c W σ H w (fun J H1 => ∃ W_1 : Nat → Nat → L2.St → Hp → Prop, (∃ m, W_1 0 m σ H1) ∧ ∀ i m σ H, W_1 i m σ H →
            (J.stop i H ∧ Dn.nx σ H) ∨ (J.go i H ∧ ∃ N : L2.St → Hp → Prop, (∀ σ' H', N σ' H' → ∃ m', m' < m ∧ W_1 (i + 1) m' σ' H') ∧ ∀ x H', J.yld i H x H' → rdTg c tg x σ H' fun σ2 H2 => rdS c W (exs G C body) { Dn with nx := N, ct := N, bk := Dn.nx } σ2 H2)) (.ok d S1) := by
        intro items hi hlk out
        refine ⟨items, hi, fun H1 w1 J x1 es k1 its => ?_⟩
        subst es
        have out := OutS.trans out x1
        rw [hlk] at its
        generalize hff : (fun (x : D) (r' : Env) (S' : Store) => (match bindTg tg x r' with
          | some r2 => exs G C body r2 S'
          | none => .bad : SR)) = f at out
        refine ⟨fun i m σ Hh => ∃ wi ri, Ext H1 w1 Hh wi ∧ Wok Hh wi ∧ ER Hh wi ri σ ∧ i ≤ items.length ∧ m = items.length - i ∧ OutS c W Hh wi Dn (forL f (items.drop i) ri wi.S), ⟨_, w1, r, .refl, k1, er.ext x1 kk, Nat.zero_le _, rfl, out⟩, ?_⟩
        rintro i m σi Hh ⟨wi, ri, xi, ki, eri, hle, rfl, oi⟩
        by_cases hlt : i < items.length
        · have hd : items[i]? = some items[i] := List.getElem?_eq_getElem hlt
          obtain ⟨go, yl⟩ := its.1.go Hh wi i items[i] xi ki hd
          refine .inr ⟨go, fun σ' H' => ∃ m', m' < items.length - i ∧ ∃ wi ri, Ext H1 w1 H' wi ∧ Wok H' wi ∧ ER H' wi ri σ' ∧ i + 1 ≤ items.length ∧ m' = items.length - (i + 1) ∧ OutS c W H' wi Dn (forL f (items.drop (i + 1)) ri wi.S), fun _ _ hN => hN, fun x H2 hy => ?_⟩
          obtain ⟨x2, k2, r2⟩ := yl x H2 hy
          rw [List.drop_eq_getElem_cons hlt] at oi
          have oi := OutS.trans oi x2
          unfold forL at oi
          cases hbd : bindTg tg items[i] ri with
          | none =>
            have e : f items[i] ri wi.S = .bad := by rw [← hff]; simp only [hbd]
            rw [e] at oi
            exact oi.elim
          | some r' =>
            have e : f items[i] ri wi.S = exs G C body r' wi.S := by rw [← hff]; simp only [hbd]
            rw [e] at oi
            refine ⟨wi, ri, _, r', k2, eri.ext x2 ki, r2, hbd, fun σ' er' _ => ⟨wi, r', k2, er', ?_⟩⟩
            match hx : exs G C body r' wi.S with
            | .bad => rw [hx] at oi; exact oi
            | .exc n S' => rw [hx] at oi; exact oi
            | .ok (.nx, r3) S' =>
              rw [hx] at oi
              intro σ3 H3 w3 x3 e3 k3 er3
              subst e3
              exact ⟨items.length - (i + 1), by omega, w3, r3, (xi.trans x2).trans x3, k3, er3, hlt, rfl, OutS.trans oi x3⟩
            | .ok (.bk, r3) S' => rw [hx] at oi; exact oi
            | .ok (.rt d, r3) S' => rw [hx] at oi; exact oi
        · have ei : i = items.length := by omega
          subst ei
          rw [List.drop_length] at oi
          exact .inl ⟨its.1.stop Hh wi items.length xi ki (Nat.le_refl _), oi σi Hh wi .refl rfl ki eri⟩
      split at out
      · exact fin _ rfl rfl out
      · exact fin _ rfl rfl out
      · exact out.elim
theorem snds_whil (t : E) {body : Ss} (hb : SndSs nm c G C k body) : SndS nm c G C k (.whil t body) := by
  intro X cx W x ox hp h
  cases x <;> first | exact Bool.noConfusion (show false = true from h) | skip
  rename_i t' body' els pos
  cases els with
  | cons _ _ => exact Bool.noConfusion (show false = true from h)
  | nil =>
    simp only [okS, Bool.and_eq_true] at h
    obtain ⟨h1, h2⟩ := h
    refine PS.imp (ps_while hp.pass ((sndE t).pt X cx W t' ox h1) (hb X cx W body' ox hp h2)) fun Dn σ H ⟨w, r, kk, er, out⟩ => ?_
    refine ⟨fun m σ Hh => ∃ wi ri, Wok Hh wi ∧ ER Hh wi ri σ ∧ OutS c W Hh wi Dn (whileL (ev G C t) (exs G C body) m ri wi.S), ⟨64, w, r, kk, er, out⟩, ?_⟩
    rintro m σi Hh ⟨wi, ri, ki, eri, oi⟩
    cases m with
    | zero => exact oi.elim
    | succ m =>
      unfold whileL at oi
      refine ⟨wi, ri, ki, eri, OutS.bindT oi (fun d S' _ e => by rw [e]) fun b H1 w1 x1 k1 o1 => ?_⟩
      cases b with
      | false => exact iteF (o1 σi H1 w1 .refl rfl k1 (eri.ext x1 ki))
      | true =>
        refine iteT ⟨fun σ' H' => ∃ m', m' < m + 1 ∧ ∃ wi ri, Wok H' wi ∧ ER H' wi ri σ' ∧ OutS c W H' wi Dn (whileL (ev G C t) (exs G C body) m' ri wi.S), fun _ _ hN => hN, w1, ri, k1, eri.ext x1 ki, ?_⟩
        simp only [tru] at o1
        match hx : exs G C body ri w1.S with
        | .bad => rw [hx] at o1; exact o1
        | .exc n S' => rw [hx] at o1; exact o1
        | .ok (.nx, r3) S' =>
          rw [hx] at o1
          intro σ3 H3 w3 x3 e3 k3 er3
          subst e3
          exact ⟨m, Nat.lt_succ_self _, w3, r3, k3, er3, OutS.trans o1 x3⟩
        | .ok (.bk, r3) S' => rw [hx] at o1; exact o1
        | .ok (.rt d, r3) S' => rw [hx] at o1; exact o1
theorem snds_never {s : MP.S} (h : ∀ cx x, okS nm cx s x = false) : SndS nm c G C k s := fun X cx W x ox hp hx => Bool.noConfusion ((h cx x).symm.trans hx)
mutual
theorem sndS : ∀ s : MP.S, SndS nm c G C k s
  | .asg tg e => snds_asg tg e
  | .par is es => snds_par is es
  | .aset o i e => snds_aset o i e
  | .aattr o f e => snds_aattr o f e
  | .aug i o e => snds_aug i o e
  | .augix o i p e => snds_augix o i p e
  | .exp e => snds_exp e
  | .ret e => snds_ret e
  | .pass => snds_pass
  | .brk => snds_brk
  | .ite t a b => snds_ite t (sndSs a) (sndSs b)
  | .for_ tg it body => snds_for tg it (sndSs body)
  | .whil t body => snds_whil t (sndSs body)
  | .raise i => snds_raise i
  | .tri s i j => snds_tri s i j
  | .frz _ => snds_never fun _ _ => rfl
theorem sndSs : ∀ s : Ss, SndSs nm c G C k s
  | .nil => sndss_nil
  | .cons s ss => sndss_cons (sndS s) (sndSs ss)
end
end MP
end

section
set_option Elab.async false
set_option linter.all false
set_option maxRecDepth 100000
set_option maxHeartbeats 4000000
set_option autoImplicit false
namespace MP
open PySem L2 PySem.Spec PyProof.Rows
/-! ### the text of a def -/
structure Df where
  x : Str
  q : Str
  N : List Str
  ps : List Str
  args : Arguments
  body : List Stmt
  scope : Scope
def scopeB (N P : List Str) (sc : Scope) : Bool :=
  (match sc.kind with
    | .function => true
    | _ => false) && !sc.isCoroutine && !sc.isGenerator && decide N.Nodup && decide (N.take P.length = P) && P.all (fun x => locB sc x) && sc.names.all (fun y => match y.2 with
    | .free => false
    | _ => true)
theorem scopeB_ok {N P : List Str} {sc : Scope} (h : scopeB N P sc = true) : FnScope N P sc := by
  unfold scopeB at h
  simp only [Bool.and_eq_true, decide_eq_true_eq, Bool.not_eq_true', List.all_eq_true] at h
  obtain ⟨⟨⟨⟨⟨⟨h1, h2⟩, h3⟩, h4⟩, h5⟩, h6⟩, h7⟩ := h
  refine ⟨?_, h2, h3, h4, h5, fun x hx => loc_of (h6 x hx), fun y hy e => ?_⟩
  · split at h1
    · assumption
    · cases h1
  · have := h7 y hy
    rw [e] at this
    cases this
def dfB (nm : Nm) (fn : Fn) (d : Df) : Bool := scopeB d.N d.ps d.scope && decide (fn.np = d.ps.length) && decide (fn.ns = d.N.length) && okSs nm ⟨d.N, d.scope, fun _ => true⟩ fn.body d.body
variable {nm : Nm} {c : Cfg} {G : Nat → Option D} {T : Nat → Option Fn} {P : Program} {wd : World} {K : PySem.W.Frag} {mg : Str → Option Value} {base : Heap}
theorem er_start {H : Hp} {w : Wl c} {N : List Str} : ∀ {vs : List V} {ds : List D}, RpAll H w vs ds → ds.length ≤ N.length → ER H w (ds.map some ++ List.replicate (N.length - ds.length) none) (L2.start N vs) := by
  intro vs ds r hl
  have e := r.length
  unfold L2.start
  refine ⟨by simp [e], fun i d h => ?_⟩
  rcases Nat.lt_or_ge i ds.length with hi | hi
  · rw [List.getElem?_append_left (by simpa using hi), List.getElem?_map] at h
    cases q : ds[i]? with
    | none => rw [q] at h; cases h
    | some z =>
      rw [q] at h
      cases h
      obtain ⟨v, hv, rv⟩ := r.get q
      exact ⟨v, by rw [List.getElem?_append_left (by simpa [e] using hi), List.getElem?_map, hv]; rfl, rv⟩
  · rw [List.getElem?_append_right (by simpa using hi)] at h
    rw [List.getElem?_replicate] at h
    split at h <;> cases h
theorem callF_len {d : Nat} {f : Nat} {fn : Fn} {as : List D} {S : Store} (ht : T f = some fn) (h : as.length ≠ fn.np) : callF G T d f as S = .bad := by
  cases d with
  | zero => rfl
  | succ d =>
    unfold callF
    rw [ht]
    simp only [if_neg h]
theorem fn_ok {d k : Nat} {f : Nat} {fn : Fn} {df : Df} {a : Addr} {fd : FuncData} (ht : T f = some fn) (hc : dfB nm fn df = true) (F : FunD K df.x df.q df.args df.body df.scope [] [] a fd) (tb : Fns P wd K mg base nm c G (callF G T d) k) :
    FnOk P wd K mg base (L2.CX P wd) (k + 2) a fd df.ps (spOf c (callF G T (d + 1) f)) := by
  unfold dfB at hc
  simp only [Bool.and_eq_true, decide_eq_true_eq] at hc
  obtain ⟨⟨⟨h1, h2⟩, h3⟩, h4⟩ := hc
  have S := scopeB_ok h1
  have arity : ∀ vs H Q E, spOf c (callF G T (d + 1) f) vs H Q E → vs.length = df.ps.length := by
    rintro vs H Q E ⟨w, ds, kk, r, o⟩
    rw [r.length, ← h2]
    by_cases e : ds.length = fn.np
    · exact e
    · rw [callF_len ht e] at o
      exact o.elim
  refine F.ok S arity fun cdv A outer s H vs Q E hr hsp => ?_
  have hlen := arity vs H Q E hsp
  obtain ⟨w, ds, kk, r, o⟩ := hsp
  generalize hX : cxOf (L2.CX P wd) P wd K mg base df.N df.q df.scope a cdv A outer s H E = X
  have ox : XO nm c G (callF G T d) k X ⟨df.N, df.scope, fun _ => true⟩ (fun cls d _ H' => E cls d H') := by
    subst hX
    exact ⟨rfl, S.nd, rfl, rfl, rfl, hr, tb, takes_of rfl rfl rfl rfl⟩
  have hp : SX X := by
    subst hX
    exact ⟨passes_of rfl, rfl, rfl, rfl⟩
  refine ⟨_, sndSs fn.body X _ _ df.body ox hp h4, w, ds.map some ++ List.replicate (df.N.length - ds.length) none, kk, er_start r ?_, ?_⟩
  · rw [← r.length, hlen]
    have := S.pre
    rw [← this]
    simp
    omega
  · have e : ds.length = fn.np := by rw [← r.length, hlen, h2]
    unfold callF at o
    rw [ht] at o
    simp only [if_pos e] at o
    rw [e, ← h3]
    match hx : exs G (callF G T d) fn.body (ds.map some ++ List.replicate (fn.ns - fn.np) none) w.S with
    | .bad => rw [hx] at o; exact o
    | .exc n S' => rw [hx] at o; exact fun σ' H' w' x e k => o H' w' x e k
    | .ok (.nx, r') S' => rw [hx] at o; exact fun σ' H' w' x e k er => o H' w' .non x e k .non
    | .ok (.rt v, r') S' => rw [hx] at o; exact fun v H' w' x e k rp => o H' w' v x e k rp
    | .ok (.bk, r') S' => rw [hx] at o; exact o.elim
/-- what is told of a program's top -/
structure Top (P : Program) (wd : World) (K : PySem.W.Frag) (mg : Str → Option Value) (nm : Nm) (c : Cfg) (G : Nat → Option D) (T : Nat → Option Fn) (df : Nat → Option Df) : Prop where
  fn : ∀ f x n, nm.fn f = some (x, n) → ∃ fn d a fd, T f = some fn ∧ df f = some d ∧ d.ps.length = n ∧ dfB nm fn d = true ∧ mg x = some (.ref a) ∧ PySem.W.keepIn K (.ref a) = true ∧ Binds K fd d.ps [] ∧ FunD K d.x d.q d.args d.body d.scope [] [] a fd
  gl : ∀ g x d, nm.gl g = some x → G g = some d → ∃ v u, mg x = some u ∧ RelV v u ∧ ∀ H (w : Wl c), Rp H w v d
  bl : ∀ x ∈ bltns, mg x = none
  ex : ∀ i x, nm.cls i = some x → ∃ Ca, mg x = some (.ref Ca) ∧ PySem.W.excIn K Ca [.type "ValueError", .type "Exception", .type "BaseException", .type "object"] "ValueError.__new__" = true ∧ PySem.W.keepIn K (.ref Ca) = true ∧ PySem.W.subIn K (.ref Ca) (.type "BaseException") = some true ∧ PySem.W.typeIn K (.ref Ca) = some (.type "type") ∧ c.cv i = .ref Ca
  lg : nm.lg = true → Cls K c.lc ∧ NoAttr K c.lc "rows" ∧ NoAttr K c.lc "past" ∧ mg "Ledger" = some (.ref c.lc)
  mt : ∀ f m n, nm.mt f = some (m, n) → ∃ fn d a fd, T f = some fn ∧ df f = some d ∧ d.ps.length = n ∧ dfB nm fn d = true ∧ L2.Meth K c.lc m a ∧ (m = "__init__" → Mk K c.lc a) ∧ Binds K fd d.ps [] ∧ FunD K d.x d.q d.args d.body d.scope [] [] a fd
  x8 : nm.x8 = true → ∀ n, n < 8 → ∃ Ca, c.cv n = .ref Ca ∧ ExcC K Ca ∧ PySem.W.kitOne K (.ref Ca) (.type "ValueError") = some true ∧ PySem.W.exmOne K (.ref Ca) (c.cv 0) = some true ∧ ∀ y, y < 8 → PySem.W.kitOne K (.ref Ca) (c.cv y) = some (subX n y)
  wd : wd = c.wd
theorem fn_zero {f : Nat} {a : Addr} {fd : FuncData} {ps : List Str} {k : Nat} : FnOk P wd K mg base (L2.CX P wd) k a fd ps (spOf c (callF G T 0 f)) := by
  refine ⟨?_, ?_⟩
  · rintro vs H Q E ⟨w, ds, kk, r, o⟩; exact o.elim
  · rintro A outer s H args us vs Q E _ _ _ _ ⟨w, ds, kk, r, o⟩; exact o.elim
theorem top_fns {df : Nat → Option Df} (t : Top P wd K mg nm c G T df) : ∀ d : Nat, Fns P wd K mg base nm c G (callF G T d) (2 * d)
  | 0 => ⟨fun f x n h => by
      obtain ⟨fn, d, a, fd, h1, h2, h3, h4, h5, h6, h7, h8⟩ := t.fn f x n h
      exact ⟨a, fd, d.ps, h3, h5, h6, h7, fn_zero⟩, t.gl, t.bl, t.ex, t.lg, fun f m n h => by
      obtain ⟨fn, d, a, fd, h1, h2, h3, h4, h5, h6, h7, h8⟩ := t.mt f m n h
      exact ⟨a, fd, d.ps, h3, h5, h6, h7, fn_zero⟩, t.x8, t.wd⟩
  | d + 1 => ⟨fun f x n h => by
      obtain ⟨fn, df, a, fd, h1, h2, h3, h4, h5, h6, h7, h8⟩ := t.fn f x n h
      exact ⟨a, fd, df.ps, h3, h5, h6, h7, fn_ok h1 h4 h8 (top_fns t d)⟩, t.gl, t.bl, t.ex, t.lg, fun f m n h => by
      obtain ⟨fn, df, a, fd, h1, h2, h3, h4, h5, h6, h7, h8⟩ := t.mt f m n h
      exact ⟨a, fd, df.ps, h3, h5, h6, h7, fn_ok h1 h4 h8 (top_fns t d)⟩, t.x8, t.wd⟩
end MP
end

section
set_option Elab.async false
set_option linter.all false
set_option maxRecDepth 100000
set_option maxHeartbeats 4000000
set_option autoImplicit false
namespace MP
open PySem L2 PySem.Spec PyProof.Rows
/-! ### the first def of every law: the draws' start -/
structure Ps where
  p1 : Pos
  p2 : Pos
  p3 : Pos
  p4 : Pos
  p5 : Pos
  p6 : Pos
  p7 : Pos
  p8 : Pos
  p9 : Pos
  p10 : Pos
  p11 : Pos
  p12 : Pos
  j1 : Nat
  j2 : Nat
def startOf : List Stmt → Option (Str × Str × Str × Ps)
  | [.Return (some (.List [.IfExp (.Compare (.Name x p1) [.NotEq] [.List [] p2] p3) (.Call (.Name l p4) [.Name y p5] [] p6) (.List [.Constant (.int 0) j1 p7] p8) p9, .Constant (.int 0) j2 p10] p11)) p12] => some (x, l, y, ⟨p1, p2, p3, p4, p5, p6, p7, p8, p9, p10, p11, p12, j1, j2⟩)
  | _ => none
theorem startOf_eq {b : List Stmt} {x l y : Str} {q : Ps} (h : startOf b = some (x, l, y, q)) : b = [.Return (some (.List [.IfExp (.Compare (.Name x q.p1) [.NotEq] [.List [] q.p2] q.p3) (.Call (.Name l q.p4) [.Name y q.p5] [] q.p6) (.List [.Constant (.int 0) q.j1 q.p7] q.p8) q.p9, .Constant (.int 0) q.j2 q.p10] q.p11)) q.p12] := by
  unfold startOf at h
  split at h
  · cases h; rfl
  · cases h
def startB (d : Df) : Bool := scopeB d.N d.ps d.scope && decide (d.N = (["script"] : List Str)) && decide (d.ps = (["script"] : List Str)) && (match startOf d.body with
  | some (x, l, y, _) => decide (x = "script") && decide (y = "script") && decide (l = "list") && glB d.scope "list" && visB d.scope "script"
  | none => false)
def cells (ns : List Int) : List Int := if ns = [] then [0] else ns
def S0 (ns : List Int) : Store := [.lst ((cells ns).map .int), .lst [rf 0, .int 0]]
def spStart (c : Cfg) (K : PySem.W.Frag) : Sp := fun vs H Q _ => ∃ a ns, vs = [.ref a] ∧ SqL K H a (ns.map V.int) ∧ ns.length ≤ 63 ∧ ∀ v H' (w' : Wl c), Wok H' w' → w'.S = S0 ns → Rp H' w' v (rf 1) → Q v H'
theorem wok_none (c : Cfg) (H : Hp) : Wok H (⟨[], [], fun _ => False⟩ : Wl c) := ⟨rfl, fun m n a o p h => by simp at h, fun n a o h => by simp at h, fun a ⟨n, o, h, _⟩ => by simp at h, fun a z => z.elim⟩
theorem ints_of {c : Cfg} {H : Hp} {w : Wl c} : ∀ ns : List Int, RpAll H w (ns.map V.int) (ns.map .int)
  | [] => .nil
  | n :: ns => .cons (.int n) (ints_of ns)
theorem dpInts {K : PySem.W.Frag} {H : Hp} : ∀ ns : List Int, DpAll K H (ns.map V.int) (ns.map .int)
  | [] => .nil
  | n :: ns => .cons (.int n) (dpInts ns)
theorem layInts : ∀ ns : List Int, PyData.canLayAll0 (ns.map .int) = true ∧ PyData.depthAll (ns.map .int) = 0
  | [] => ⟨rfl, rfl⟩
  | n :: ns => ⟨by simp [PyData.canLayAll0, PyData.canLay0, (layInts ns).1], by simp [PyData.depthAll, PyData.depth, (layInts ns).2]⟩
theorem start_ok {c : Cfg} {P : Program} {wd : World} {K : PySem.W.Frag} {mg : Str → Option Value} {base : Heap} {df : Df} {a : Addr} {fd : FuncData} {k : Nat} (hc : startB df = true) (F : FunD K df.x df.q df.args df.body df.scope [] [] a fd) (ml : mg "list" = none) :
    FnOk P wd K mg base (L2.CX P wd) (k + 1) a fd df.ps (spStart c K) := by
  unfold startB at hc
  simp only [Bool.and_eq_true, decide_eq_true_eq] at hc
  obtain ⟨⟨⟨h1, h2⟩, h3⟩, h4⟩ := hc
  have S := scopeB_ok h1
  cases hq : startOf df.body with
  | none => rw [hq] at h4; cases h4
  | some q =>
    obtain ⟨x, l, y, q⟩ := q
    rw [hq] at h4
    simp only [Bool.and_eq_true, decide_eq_true_eq] at h4
    obtain ⟨⟨⟨⟨rfl, rfl⟩, rfl⟩, g1⟩, g2⟩ := h4
    have eb := startOf_eq hq
    refine F.ok S (fun vs H Q E h => ?_) fun cdv A outer s H vs Q E hr h => ?_
    · obtain ⟨a, ns, rfl, _⟩ := h
      rw [h3]; rfl
    · obtain ⟨b, ns, rfl, hS, hlen, qq⟩ := h
      rw [eb]
      generalize hX : cxOf (L2.CX P wd) P wd K mg base df.N df.q df.scope a cdv A outer s H E = X
      have hN : X.N[0]? = some ("script" : Str) := by subst hX; show df.N[0]? = _; rw [h2]; rfl
      have hv : Vis X.env.scope "script" := by subst hX; exact vis_of g2
      have hg : Gl X "list" := by subst hX; exact gl_of (sc := df.scope) rfl g1
      have hm : X.mg "list" = none := by subst hX; exact ml
      have hK : X.K = K := by subst hX; rfl
      have hr' : Room k X.A := by subst hX; exact hr
      refine ⟨_, pss_one (ps_ret (pe_lst (pa_cons (pe_ifExp (pt_cmpR (op_neD hr'.units) (pe_var (i := 0) hN hv) (pe_lst pa_nil) (nomark _)) (pe_callTy call_list_of hg hm (by decide +kernel) (pa_cons (pe_var (i := 0) hN hv) pa_nil)) (pe_lst (pa_cons pe_int pa_nil))) (pa_cons pe_int pa_nil)))), ?_⟩
      have hs0 : (L2.start df.N [V.ref b])[0]? = some (some (.ref b)) := by rw [h2]; rfl
      refine ⟨.ref b, hs0, Nat.zero_le _, fun p0 hp0 => ?_⟩
      have hS1 : SqL X.K (upd H p0 (.lst [])) b (ns.map V.int) := by
        rw [hK]
        rcases hS with (z | ⟨o, z⟩) | z
        · exact .inl (.inl (by rw [upd_ne (ne_of_none z hp0)]; exact z))
        · exact .inl (.inr ⟨o, by rw [upd_ne (ne_of_none z hp0)]; exact z⟩)
        · exact .inr z
      have fin : ∀ (H1 : Hp) (n : Addr), H1 n = none → ∀ p, (upd H1 n (.lst ((cells ns).map V.int))) p = none → Q (.ref p) (upd (upd H1 n (.lst ((cells ns).map V.int))) p (.lst [.ref n, .int 0])) := by
        intro H1 n hn p hp
        have k1 := wok_addL (wok_none c H1) hn (ints_of (cells ns))
        refine qq (.ref p) _ _ (wok_addL k1 hp (ds := [rf 0, .int 0]) (.cons (.ref (n := 0) rfl) (.cons (.int 0) .nil))) rfl (.ref (n := 1) rfl)
      refine ⟨.list (ns.map .int), .list [], .lst hS1 (dpInts ns), .lst (SqL.of upd_same) .nil, ?_, rfl, _, rfl, ?_⟩
      · unfold SeqAt.shaped
        simp only [PyData.canLay0, PyData.depth, (layInts ns).1, (layInts ns).2]
        decide
      · cases ns with
        | nil =>
          refine iteF ?_
          exact ⟨by show 1 ≤ sizeLine; decide, fun n hn => ⟨by show 2 ≤ sizeLine; decide, fun p hp => fin _ n hn p hp⟩⟩
        | cons m ms =>
          refine iteT ?_
          exact ⟨.ref b, hs0, b, (m :: ms).map V.int, rfl, .inl hS1, fun n hn => ⟨by show 2 ≤ sizeLine; decide, fun p hp => fin _ n hn p hp⟩⟩
end MP
end

section
set_option Elab.async false
set_option linter.all false
set_option maxRecDepth 100000
set_option maxHeartbeats 4000000
set_option autoImplicit false
namespace MP
open PySem L2 PySem.Spec PyProof.Rows
/-! ### the law's own def: its first statement starts the draws -/
structure Pl where
  p1 : Pos
  p2 : Pos
  p3 : Pos
  p4 : Pos
  p5 : Pos
def lawOf : List Stmt → Option (Str × Str × Str × Pl × List Stmt)
  | .Assign [.Name y p1] (.Call (.Name f p2) [.Name x p3] [] p4) p5 :: rest => some (y, f, x, ⟨p1, p2, p3, p4, p5⟩, rest)
  | _ => none
theorem lawOf_eq {b rest : List Stmt} {y f x : Str} {q : Pl} (h : lawOf b = some (y, f, x, q, rest)) : b = .Assign [.Name y q.p1] (.Call (.Name f q.p2) [.Name x q.p3] [] q.p4) q.p5 :: rest := by
  unfold lawOf at h
  split at h
  · cases h; rfl
  · cases h
def lawB (nm : Nm) (body : Ss) (d : Df) : Bool := scopeB d.N d.ps d.scope && decide (d.N[0]? = some ("script" : Str)) && decide (d.N[1]? = some ("draws" : Str)) && decide (d.ps = (["script"] : List Str)) && (match lawOf d.body with
  | some (y, f, x, _, rest) => decide (y = "draws") && decide (f = "_law_start") && decide (x = "script") && glB d.scope "_law_start" && visB d.scope "script" && locB d.scope "draws" && okSs nm ⟨d.N, d.scope, fun _ => true⟩ body rest
  | none => false)
variable {nm : Nm} {c : Cfg} {G : Nat → Option D} {T : Nat → Option Fn} {P : Program} {wd : World} {K : PySem.W.Frag} {mg : Str → Option Value} {base : Heap}
def r0 (n : Nat) : Env := none :: some (rf 1) :: List.replicate (n - 2) none
def Runs (G : Nat → Option D) (T : Nat → Option Fn) (d : Nat) (body : Ss) (n : Nat) (ns : List Int) : Prop := ∃ r' S', exs G (callF G T d) body (r0 n) (S0 ns) = .ok (.rt (.bool true), r') S'
def spLaw (K : PySem.W.Frag) (G : Nat → Option D) (T : Nat → Option Fn) (d : Nat) (body : Ss) (n : Nat) : Sp := fun vs H Q _ => ∃ a ns, vs = [.ref a] ∧ SqL K H a (ns.map V.int) ∧ ns.length ≤ 63 ∧ Runs G T d body n ns ∧ ∀ H', Q (.bl true) H'
theorem law_ok {d k : Nat} {df dfS : Df} {body : Ss} {a aS : Addr} {fd fdS : FuncData} (hc : lawB nm body df = true) (F : FunD K df.x df.q df.args df.body df.scope [] [] a fd) (tb : Fns P wd K mg base nm c G (callF G T d) (k + 1))
    (hs : startB dfS = true) (FS : FunD K dfS.x dfS.q dfS.args dfS.body dfS.scope [] [] aS fdS) (bS : Binds K fdS dfS.ps []) (mS : mg "_law_start" = some (.ref aS)) (kS : PySem.W.keepIn K (.ref aS) = true) :
    FnOk P wd K mg base (L2.CX P wd) (k + 3) a fd df.ps (spLaw K G T d body df.N.length) := by
  have FSok : FnOk P wd K mg base (L2.CX P wd) (k + 1) aS fdS dfS.ps (spStart c K) := start_ok hs FS (tb.bl "list" (by decide))
  unfold lawB at hc
  simp only [Bool.and_eq_true, decide_eq_true_eq] at hc
  obtain ⟨⟨⟨⟨h1, h2⟩, h3⟩, h4⟩, h5⟩ := hc
  have S := scopeB_ok h1
  cases hq : lawOf df.body with
  | none => rw [hq] at h5; cases h5
  | some q =>
    obtain ⟨y, f, x, q, rest⟩ := q
    rw [hq] at h5
    simp only [Bool.and_eq_true, decide_eq_true_eq] at h5
    obtain ⟨⟨⟨⟨⟨⟨rfl, rfl⟩, rfl⟩, g1⟩, g2⟩, g3⟩, g4⟩ := h5
    have eb := lawOf_eq hq
    refine F.ok S (fun vs H Q E h => ?_) fun cdv A outer s H vs Q E hr h => ?_
    · obtain ⟨a, ns, rfl, _⟩ := h
      rw [h4]; rfl
    · obtain ⟨b, ns, rfl, hS, hlen, ⟨r', S', run⟩, qq⟩ := h
      rw [eb]
      generalize hX : cxOf (L2.CX P wd) P wd K mg base df.N df.q df.scope a cdv A outer s H E = X
      have ox : XO nm c G (callF G T d) (k + 1) X ⟨df.N, df.scope, fun _ => true⟩ (fun cls d _ H' => E cls d H') := by
        subst hX
        exact ⟨rfl, S.nd, rfl, rfl, rfl, hr, tb, takes_of rfl rfl rfl rfl⟩
      have hp : SX X := by
        subst hX
        exact ⟨passes_of rfl, rfl, rfl, rfl⟩
      have hK : X.K = K := by subst hX; rfl
      have FX : FnOk X.prog X.w X.K X.mg X.base (L2.CX X.prog X.w) (k + 1) aS fdS dfS.ps (spStart c K) := by subst hX; exact FSok
      have mX : X.mg "_law_start" = some (.ref aS) := by subst hX; exact mS
      have kX : PySem.W.keepIn X.K (.ref aS) = true := by subst hX; exact kS
      have bX : Binds X.K fdS dfS.ps [] := by subst hX; exact bS
      have hN0 : X.N[0]? = some ("script" : Str) := by rw [ox.N]; exact h2
      have hN1 : X.N[1]? = some ("draws" : Str) := by rw [ox.N]; exact h3
      have hv : Vis X.env.scope "script" := by rw [ox.sc]; exact vis_of g2
      have hl : Loc X.env.scope "draws" := by rw [ox.sc]; exact loc_of g3
      refine ⟨_, pss_cons (ps_set (i := 1) ox.nd hN1 hl (pe_callS FX ox.room (gl_of ox.sc g1) mX kX bX (fun σ => passAt ox.tk σ) (pa_cons (pe_var (i := 0) hN0 hv) pa_nil)) (by rfl) (.inl (by rw [ox.fn]))) (sndSs body X _ _ rest ox hp g4), ?_⟩
      have n2 : 1 < df.N.length := by
        rcases Nat.lt_or_ge 1 df.N.length with z | z
        · exact z
        · rw [List.getElem?_eq_none z] at h3; cases h3
      have hs0 : (L2.start df.N [V.ref b])[0]? = some (some (.ref b)) := by
        unfold L2.start; simp
      have ls : (L2.start df.N [V.ref b]).length = df.N.length := by
        unfold L2.start; simp; omega
      refine ⟨.ref b, hs0, b, ns, rfl, hS, hlen, fun v H' w' k e rp => ?_⟩
      refine ⟨w', r0 df.N.length, k, ?_, ?_⟩
      · refine ⟨?_, fun i d h => ?_⟩
        · show (r0 df.N.length).length = _
          rw [List.length_set, ls]; unfold r0; simp; omega
        · unfold r0 at h
          match i, h with
          | 0, h => simp at h
          | 1, h =>
            simp at h
            cases h
            exact ⟨v, by rw [List.getElem?_set_self (by rw [ls]; exact n2)], rp⟩
          | i + 2, h =>
            simp [List.getElem?_replicate] at h
      · rw [e, run]
        intro v H2 w2 x2 e2 k2 rp2
        cases rp2
        exact qq H2
end MP
end

section
set_option Elab.async false
set_option linter.all false
set_option maxRecDepth 100000
set_option maxHeartbeats 4000000
set_option autoImplicit false
namespace MP
open PySem L2 PySem.Spec PyProof.Rows
/-! ### a law's data, and the end -/
structure Row where
  x : Str
  cl : Bool
  N : List Str
  np : Nat
  ti : Nat
  body : Ss
def clsBody : Stmt → List Stmt
  | .ClassDef _ _ _ b _ _ _ _ _ _ _ => b
  | _ => []
structure Lw where
  top : Nat → Stmt
  rows : List Row
  gls : List (Str × Int)
  txs : List (Str × Str)
  excs : List Str
  x8 : Bool
  start : Row
  law : Row
def Row.q (r : Row) : Str := if r.cl then "Ledger." ++ r.x else r.x
def Row.at_ (r : Row) : Str × Option Str := if r.cl then ("Ledger", some r.x) else (r.x, none)
def Row.df (top : Nat → Stmt) (r : Row) : Df := ⟨r.x, r.q, r.N, r.N.take r.np, defArgs (top r.ti), defBody (top r.ti), defScope (top r.ti)⟩
def Row.fn (r : Row) : Fn := ⟨r.np, r.N.length, r.body⟩
def Row.dd (top : Nat → Stmt) (r : Row) : He.DefD := ⟨r.at_, r.x, r.q, defArgs (top r.ti), defBody (top r.ti), defScope (top r.ti), [], []⟩
def Row.BindP (top : Nat → Stmt) (r : Row) : Prop := ∀ (kV doc pm : Value) (an : Option Addr) (cdv ct : Value) (us : List Value), us.length = (r.df top).ps.length → bindArgs (PySem.W.fnOf r.x r.q (r.df top).args (r.df top).body (r.df top).scope .none kV doc pm an cdv ct) ⟨us, []⟩ = pure ((r.df top).ps.zip us)
def AllB (top : Nat → Stmt) : List Row → Prop
  | [] => True
  | r :: rs => r.BindP top ∧ AllB top rs
theorem AllB.get {top : Nat → Stmt} : ∀ {rs : List Row} {i : Nat} {r : Row}, AllB top rs → rs[i]? = some r → r.BindP top
  | [], _, _, _, h => by simp at h
  | _ :: _, 0, _, b, h => by simp at h; cases h; exact b.1
  | _ :: _, i + 1, _, b, h => AllB.get b.2 (by simpa using h)
def Lw.lg (L : Lw) : Bool := L.rows.any (·.cl)
def Lw.nm (L : Lw) : Nm := { fn := fun f => L.rows[f]?.bind fun r => if r.cl then none else some (r.x, r.np), gl := fun g => if g < L.gls.length then L.gls[g]?.map (·.1) else L.txs[g - L.gls.length]?.map (·.1), cls := fun i => L.excs[i]?, mt := fun f => L.rows[f]?.bind fun r => if r.cl then some (r.x, r.np) else none, lg := L.lg, x8 := L.x8 }
def Lw.G (L : Lw) (g : Nat) : Option D := if g < L.gls.length then L.gls[g]?.map fun p => .int p.2 else L.txs[g - L.gls.length]?.map fun p => .str p.2
def Lw.T (L : Lw) (f : Nat) : Option Fn := L.rows[f]?.map Row.fn
def Lw.df (L : Lw) (f : Nat) : Option Df := L.rows[f]?.map (Row.df L.top)
def Lw.cvA (L : Lw) (K : PySem.W.Frag) (i : Nat) : Addr := He.ga K (L.excs.getD i "")
def Lw.cfg (L : Lw) (K : PySem.W.Frag) (wd : World) : Cfg := { cv := fun i => .ref (L.cvA K i), wd := wd, lc := He.ga K "Ledger" }
def Lw.fns (L : Lw) : List He.DefD := L.rows.map (Row.dd L.top) ++ [L.start.dd L.top, L.law.dd L.top]
def Lw.faL (L : Lw) : List He.Fa := if L.lg then [.cls "Ledger", .noat "Ledger" "rows", .noat "Ledger" "past", .mkr "Ledger", .glo "Ledger"] else []
def Lw.fa (L : Lw) : List He.Fa := L.rows.map (fun r => if r.cl then .meth "Ledger" r.x else .glo r.x) ++ ([.glo "_law_start", .glo "law"] ++ (bltns.map .free ++ (L.gls.map (fun p => .int p.1 p.2) ++ (L.txs.map (fun p => .str p.1 p.2) ++ (L.excs.map .glo ++ (L.excs.map .exc ++ L.faL))))))
def Lw.ok (L : Lw) : Bool := L.rows.all (fun r => dfB L.nm r.fn (r.df L.top) && decide (r.np ≤ r.N.length)) && startB (L.start.df L.top) && decide (L.start.x = "_law_start") && !L.start.cl && lawB L.nm L.law.body (L.law.df L.top) && decide (L.law.x = "law") && !L.law.cl && decide (0 < L.excs.length)
/-- what of the classes of exceptions is looked at in the memory itself -/
def exC (K : PySem.W.Frag) (A : Addr) : Bool := He.eqO (PySem.W.findIn K (.ref A) "__getattribute__") (some (some (.builtin "BaseException.__getattribute__"))) && (He.eqO (PySem.W.findIn K (.ref A) "__getattr__") (some none) && (decide (PySem.W.subIn K (.ref A) (.type "BaseException") = some true) && (PySem.W.hasDictIn K A && (He.eqO (PySem.W.findIn K (.ref A) "__class__") (some (some (.builtin "object.__class__"))) && (He.eqO (PySem.W.specialIn K (.builtin "object.__class__") "__get__") (some (some (.builtin "getset_descriptor.__get__"))) && (decide (PySem.W.takesIn K (.builtin "object.__class__") = some true) && decide (PySem.W.mroIn K A (.type "object") = some true)))))))
theorem exC_ok {K : PySem.W.Frag} {A : Addr} (h : exC K A = true) : ExcC K A := by
  unfold exC at h
  simp only [Bool.and_eq_true, decide_eq_true_eq] at h
  obtain ⟨h1, h2, h3, h4, h5, h6, h7, h8⟩ := h
  exact ⟨He.eqO_ok h1, He.eqO_ok h2, h3, h4, He.eqO_ok h5, He.eqO_ok h6, h7, h8⟩
def Lw.exK (L : Lw) (K : PySem.W.Frag) : Bool := !L.x8 || (List.range 8).all fun n => exC K (L.cvA K n) && (decide (PySem.W.kitOne K (.ref (L.cvA K n)) (.type "ValueError") = some true) && (decide (PySem.W.exmOne K (.ref (L.cvA K n)) (.ref (L.cvA K 0)) = some true) && (List.range 8).all fun y => decide (PySem.W.kitOne K (.ref (L.cvA K n)) (.ref (L.cvA K y)) = some (subX n y))))
/-! ### the look at the memory behind the top -/
def obsM (n : Nat) (fa : List He.Fa) (fn : List He.DefD) (ex : PySem.W.Frag → Bool) (g : Addr → Option Obj) : He.AlD × Bool := (He.obsD fa fn (He.frG g (He.asD g n)), ex (He.frG g (He.asD g n)))
def hookM (n : Nat) (fa : List He.Fa) (fn : List He.DefD) (ex : PySem.W.Frag → Bool) : PySem.W.Hook where
  α := He.AlD × Bool
  obs := fun s => obsM n fa fn ex s.heap.get?
  val := fun _ => (He.valD fn, true)
  says := fun _ h => ∃ K : PySem.W.Frag, K.In h ∧ He.SaysD fa fn K ∧ ex K = true
  of := fun _ _ e => ⟨_, He.frG_in, congrArg Prod.fst e, congrArg Prod.snd e⟩
  keeps := fun _ _ _ ⟨K, hK, q⟩ k => ⟨K, PySem.W.Frag.In.keeps hK k, q⟩
theorem obsM_eq {n : Nat} {fa : List He.Fa} {fn : List He.DefD} {ex : PySem.W.Frag → Bool} {g : Addr → Option Obj} {s : Shared} (h : ∀ a, g a = s.heap.get? a) : obsM n fa fn ex g = (hookM n fa fn ex).obs s := by
  have e : g = s.heap.get? := funext h
  rw [e]
  rfl
theorem says_mem {fa : List He.Fa} {fn : List He.DefD} {K : PySem.W.Frag} (c : He.SaysD fa fn K) {f : He.Fa} (h : f ∈ fa) : f.ok K = true := by
  obtain ⟨i, h⟩ := List.getElem?_of_mem h
  exact c.fact i h
theorem says_def {fa : List He.Fa} {fn : List He.DefD} {K : PySem.W.Frag} (c : He.SaysD fa fn K) {d : He.DefD} (h : d ∈ fn) : ∃ fd, FunD K d.name d.qual d.params d.body d.scope (d.dvs K) (d.kws K) (He.fAd K d.at_) fd := by
  obtain ⟨i, h⟩ := List.getElem?_of_mem h
  exact c.def_ i h
theorem row_def {L : Lw} {K : PySem.W.Frag} (c : He.SaysD L.fa L.fns K) {r : Row} (h : r.dd L.top ∈ L.fns) : ∃ fd, FunD K (r.df L.top).x (r.df L.top).q (r.df L.top).args (r.df L.top).body (r.df L.top).scope [] [] (He.fAd K r.at_) fd := says_def c h
theorem Lw.top_ok {L : Lw} {P : Program} {wd : World} {K : PySem.W.Frag} {mg : Str → Option Value} {h : Heap} (X : K.In h) (hG : h.Ns mainGlobals mg) (c : He.SaysD L.fa L.fns K) (cx : L.exK K = true) (hb : AllB L.top L.rows) (hk : L.ok = true) : Top P wd K mg L.nm (L.cfg K wd) L.G L.T L.df := by
  unfold Lw.ok at hk
  simp only [Bool.and_eq_true, decide_eq_true_eq, List.all_eq_true, Bool.not_eq_true'] at hk
  obtain ⟨⟨⟨⟨⟨⟨⟨h1, h2⟩, h3⟩, h4⟩, h5⟩, h6⟩, h7⟩, h8⟩ := hk
  have lgm : L.lg = true → ∀ f ∈ ([.cls "Ledger", .noat "Ledger" "rows", .noat "Ledger" "past", .mkr "Ledger", .glo "Ledger"] : List He.Fa), f.ok K = true := fun hl f hf => says_mem c (by
    unfold Lw.fa Lw.faL
    rw [if_pos hl]
    simp only [List.mem_append]
    exact .inr (.inr (.inr (.inr (.inr (.inr (.inr hf)))))))
  refine ⟨fun f x n hf => ?_, fun g x d hx hd => ?_, fun x hx => ?_, fun i x hx => ?_, fun hl => ?_, fun f m n hf => ?_, fun hx n hn => ?_, rfl⟩
  · unfold Lw.nm at hf
    simp only at hf
    cases hr : L.rows[f]? with
    | none => rw [hr] at hf; cases hf
    | some r =>
      rw [hr] at hf
      simp only [Option.bind_some] at hf
      cases hc : r.cl with
      | true => rw [hc] at hf; cases hf
      | false =>
        rw [hc] at hf
        cases hf
        have hm := List.mem_of_getElem? hr
        obtain ⟨fd, F⟩ := row_def c (r := r) (List.mem_append_left _ (List.mem_map_of_mem hm))
        have ea : He.fAd K r.at_ = He.ga K r.x := by unfold Row.at_; rw [hc]; rfl
        rw [ea] at F
        refine ⟨r.fn, r.df L.top, He.ga K r.x, fd, by unfold Lw.T; rw [hr]; rfl, by unfold Lw.df; rw [hr]; rfl, ?_, (h1 r hm).1, ?_, F.kp, ?_, F⟩
        · show (r.N.take r.np).length = r.np
          rw [List.length_take]
          exact Nat.min_eq_left (h1 r hm).2
        · refine He.glo_ok X hG (says_mem c (List.mem_append_left _ (List.mem_map.mpr ⟨r, hm, ?_⟩)))
          rw [hc]; rfl
        · exact FunD.bindsN F (hb.get hr)
  · unfold Lw.nm at hx
    unfold Lw.G at hd
    simp only at hx
    by_cases hg : g < L.gls.length
    · rw [if_pos hg] at hx hd
      cases hr : L.gls[g]? with
      | none => rw [hr] at hx; cases hx
      | some p =>
        rw [hr] at hx hd
        cases hx
        cases hd
        have hm := List.mem_of_getElem? hr
        obtain ⟨t, ht⟩ := He.int_ok X hG (says_mem c (f := .int p.1 p.2) (by unfold Lw.fa; simp only [List.mem_append]; exact .inr (.inr (.inr (.inl (List.mem_map.mpr ⟨p, hm, rfl⟩))))))
        exact ⟨.int p.2, _, ht, ⟨t, rfl⟩, fun H w => .int p.2⟩
    · rw [if_neg hg] at hx hd
      cases hr : L.txs[g - L.gls.length]? with
      | none => rw [hr] at hx; cases hx
      | some p =>
        rw [hr] at hx hd
        cases hx
        cases hd
        have hm := List.mem_of_getElem? hr
        obtain ⟨t, ht⟩ := He.str_ok X hG (says_mem c (f := .str p.1 p.2) (by unfold Lw.fa; simp only [List.mem_append]; exact .inr (.inr (.inr (.inr (.inl (List.mem_map.mpr ⟨p, hm, rfl⟩)))))))
        exact ⟨.str p.2, _, ht, ⟨t, rfl⟩, fun H w => .str p.2⟩
  · exact He.free_ok X hG (says_mem c (f := .free x) (by unfold Lw.fa; simp only [List.mem_append]; exact .inr (.inr (.inl (List.mem_map.mpr ⟨x, hx, rfl⟩)))))
  · have hx : L.excs[i]? = some x := hx
    have hm := List.mem_of_getElem? hx
    have k1 := He.glo_ok X hG (says_mem c (f := .glo x) (by unfold Lw.fa; simp only [List.mem_append]; exact .inr (.inr (.inr (.inr (.inr (.inl (List.mem_map.mpr ⟨x, hm, rfl⟩))))))))
    obtain ⟨k2, k3, k4, k5⟩ := He.exc_ok (says_mem c (f := .exc x) (by unfold Lw.fa; simp only [List.mem_append]; exact .inr (.inr (.inr (.inr (.inr (.inr (.inl (List.mem_map.mpr ⟨x, hm, rfl⟩)))))))))
    refine ⟨He.ga K x, k1, k2, k3, k4, k5, ?_⟩
    show Value.ref (He.ga K (L.excs.getD i "")) = _
    rw [List.getD_eq_getElem?_getD, hx]; rfl
  · have q := lgm hl
    exact ⟨He.cls_ok (q _ (by simp)), He.noat_ok (q _ (by simp)), He.noat_ok (q _ (by simp)), He.glo_ok X hG (q _ (by simp))⟩
  · unfold Lw.nm at hf
    simp only at hf
    cases hr : L.rows[f]? with
    | none => rw [hr] at hf; cases hf
    | some r =>
      rw [hr] at hf
      simp only [Option.bind_some] at hf
      cases hc : r.cl with
      | false => rw [hc] at hf; cases hf
      | true =>
        rw [hc] at hf
        cases hf
        have hm := List.mem_of_getElem? hr
        have hl : L.lg = true := List.any_eq_true.mpr ⟨r, hm, hc⟩
        obtain ⟨fd, F⟩ := row_def c (r := r) (List.mem_append_left _ (List.mem_map_of_mem hm))
        have ea : He.fAd K r.at_ = He.ma K (He.ga K "Ledger") r.x := by unfold Row.at_; rw [hc]; rfl
        rw [ea] at F
        refine ⟨r.fn, r.df L.top, _, fd, by unfold Lw.T; rw [hr]; rfl, by unfold Lw.df; rw [hr]; rfl, ?_, (h1 r hm).1, ?_, fun e => ?_, ?_, F⟩
        · show (r.N.take r.np).length = r.np
          rw [List.length_take]
          exact Nat.min_eq_left (h1 r hm).2
        · refine He.meth_ok (x := "Ledger") (says_mem c (List.mem_append_left _ (List.mem_map.mpr ⟨r, hm, ?_⟩)))
          rw [hc]; rfl
        · rw [e]
          exact He.mkr_ok (lgm hl _ (by simp))
        · exact FunD.bindsN F (hb.get hr)
  · have hx : L.x8 = true := hx
    unfold Lw.exK at cx
    rw [hx] at cx
    simp only [Bool.not_true, Bool.false_or, List.all_eq_true, List.mem_range, Bool.and_eq_true, decide_eq_true_eq] at cx
    obtain ⟨a1, a2, a3, a4⟩ := cx n hn
    exact ⟨L.cvA K n, rfl, exC_ok a1, a2, a3, a4⟩
theorem law_ok0 {P : Program} {w : World} {K : PySem.W.Frag} {mg : Str → Option Value} {base : Heap} {G : Nat → Option D} {T : Nat → Option Fn} {d k n : Nat} {body : Ss} {f : Addr} {fd : FuncData} {ps : List Str} (F : FnOk P w K mg base (L2.CX P w) k f fd ps (spLaw K G T d body n)) : FnOk P w K mg base CX0 k f fd ps (spLaw K G T d body n) := by
  refine ⟨F.len, fun A outer s H args us vs Q E hr he hb hv hs => ?_⟩
  refine codeAny_mono (F.run A outer s H args us vs Q (fun _ _ _ => False) hr he hb hv hs) fun r s' h => ?_
  unfold CR at h ⊢
  split at h
  · exact h
  · exact h
  · obtain ⟨_, _, _, _, _, _, _, _, _, _, _, _, z⟩ := h
    exact z.elim
theorem Lw.facts {L : Lw} {P : Program} {w : World} {K : PySem.W.Frag} {h : Heap} {mg : Str → Option Value} {f : Addr} (d : Nat) (X : K.In h) (hG : h.Ns mainGlobals mg) (hfa : mg ("law" : Str) = some (.ref f)) (c : He.SaysD L.fa L.fns K) (cx : L.exK K = true) (hb : AllB L.top L.rows) (hbs : L.start.BindP L.top) (hbl : L.law.BindP L.top) (hk : L.ok = true) :
    ∃ fd : FuncData, (∀ (s : Shared) (v : Value), BindsTo s fd ⟨[v], []⟩ [("script", v)]) ∧ ∀ base : Heap, K.In base → base.Ns mainGlobals mg → FnOk P w K mg base CX0 (2 * d + 4) f fd ["script"] (spLaw K L.G L.T (d + 1) L.law.body L.law.N.length) := by
  have t : Top P w K mg L.nm (L.cfg K w) L.G L.T L.df := Lw.top_ok X hG c cx hb hk
  unfold Lw.ok at hk
  simp only [Bool.and_eq_true, decide_eq_true_eq, List.all_eq_true, Bool.not_eq_true'] at hk
  obtain ⟨⟨⟨⟨⟨⟨⟨h1, h2⟩, h3⟩, h4⟩, h5⟩, h6⟩, h7⟩, h8⟩ := hk
  obtain ⟨fdS, FS⟩ := row_def c (r := L.start) (List.mem_append_right _ (List.mem_cons_self ..))
  obtain ⟨fd, F⟩ := row_def c (r := L.law) (List.mem_append_right _ (List.mem_cons_of_mem _ (List.mem_cons_self ..)))
  have eS : He.fAd K L.start.at_ = He.ga K "_law_start" := by unfold Row.at_; rw [h4, h3]; rfl
  have eL : He.fAd K L.law.at_ = He.ga K "law" := by unfold Row.at_; rw [h7, h6]; rfl
  rw [eS] at FS
  rw [eL] at F
  have g1 := He.glo_ok X hG (says_mem c (f := .glo "_law_start") (by unfold Lw.fa; simp only [List.mem_append]; exact .inr (.inl (List.mem_cons_self ..))))
  have g2 := He.glo_ok X hG (says_mem c (f := .glo "law") (by unfold Lw.fa; simp only [List.mem_append]; exact .inr (.inl (List.mem_cons_of_mem _ (List.mem_cons_self ..)))))
  have e := hfa.symm.trans g2
  cases e
  have hps : (L.law.df L.top).ps = (["script"] : List Str) := by
    unfold lawB at h5
    simp only [Bool.and_eq_true, decide_eq_true_eq] at h5
    exact h5.1.2
  refine ⟨fd, fun s v => ?_, fun base _ _ => ?_⟩
  · have b := FunD.bindsA (ps := (L.law.df L.top).ps) F hbl s [v] (by rw [hps]; rfl)
    rw [hps] at b
    exact b
  · have F1 := law_ok (d := d + 1) (k := 2 * d + 1) (base := base) h5 F (top_fns t (d + 1)) h2 FS (FunD.bindsN FS (by have := hbs; unfold Row.BindP at this; exact this)) g1 FS.kp
    rw [hps] at F1
    exact law_ok0 F1
end MP
end

section
set_option Elab.async false
set_option linter.all false
set_option maxRecDepth 100000
set_option maxHeartbeats 4000000
set_option autoImplicit false
/-! plain laws of the interpreter -/
namespace MP
open PySem
def fin : SR → Res D
  | .ok (.rt x, _) S' => .ok x S'
  | .ok (.nx, _) S' => .ok .none S'
  | .ok (.bk, _) _ => .bad
  | .exc c S' => .exc c S'
  | .bad => .bad
abbrev iL (r : List Int) : D := .list (r.map .int)
abbrev tL (t : List (List Int)) : D := .list (t.map iL)
@[simp] theorem bind_ok {α β : Type} (a : α) (S : Store) (f : α → Store → Res β) : (Res.ok a S).bind f = f a S := rfl
@[simp] theorem bind_bad {α β : Type} (f : α → Store → Res β) : (Res.bad : Res α).bind f = .bad := rfl
@[simp] theorem bind_exc {α β : Type} (c : Nat) (S : Store) (f : α → Store → Res β) : (Res.exc c S : Res α).bind f = .exc c S := rfl
@[simp] theorem ofO_some {α : Type} (a : α) (S : Store) : ofO (some a) S = .ok a S := rfl
@[simp] theorem okI_true (d : D) (S : Store) : okI true d S = .ok d S := rfl
theorem okI_of {c : Bool} {d : D} {S : Store} (h : c = true) : okI c d S = .ok d S := by rw [h]; rfl
@[simp] theorem tru_b (b : Bool) : tru (.bool b) = some b := rfl
@[simp] theorem asRef_list (xs : List D) : asRef (.list xs) = none := rfl
@[simp] theorem asRef_tuple (xs : List D) : asRef (.tuple xs) = none := rfl
@[simp] theorem viewL_list (S : Store) (xs : List D) : viewL S (.list xs) = some xs := rfl
@[simp] theorem viewS_list (S : Store) (xs : List D) : viewS S (.list xs) = some xs := rfl
@[simp] theorem viewS_tuple (S : Store) (xs : List D) : viewS S (.tuple xs) = some xs := rfl
@[simp] theorem lockL (S : Store) (xs : List D) : lock S (.list xs) = S := rfl
@[simp] theorem lockT (S : Store) (xs : List D) : lock S (.tuple xs) = S := rfl
@[simp] theorem unlockL (S S' : Store) (xs : List D) : unlock S S' (.list xs) = S' := rfl
@[simp] theorem unlockT (S S' : Store) (xs : List D) : unlock S S' (.tuple xs) = S' := rfl
theorem asInts : ∀ r : List Int, mapO asInt (r.map .int) = some r
  | [] => rfl
  | x :: r => by simp [mapO, asInt, asInts r]
theorem strue : ∀ r : List Bool, mapO truA (r.map .bool) = some r
  | [] => rfl
  | x :: r => by simp [mapO, truA, strue r]
theorem trueI : ∀ r : List Int, mapO truA (r.map .int) = some (r.map (· != 0))
  | [] => rfl
  | x :: r => by simp [mapO, truA, trueI r]
theorem range_eq : ∀ (n : Nat) (i : Int), rangeL i n = (List.range n).map fun k => .int (i + k)
  | 0, _ => rfl
  | n + 1, i => by
    rw [rangeL, range_eq n (i + 1), List.range_succ_eq_map]
    simp only [List.map_cons, List.map_map]
    congr 1
    · simp
    · apply List.map_congr_left
      intro k _
      simp only [Function.comp]
      congr 1
      push_cast
      omega
theorem range0 (n : Nat) : rangeL 0 n = (List.range n).map fun k => .int (k : Int) := by
  rw [range_eq]
  apply List.map_congr_left
  intro k _
  simp
theorem cut_dropLast (xs : List D) : cut xs none (some (-1)) = xs.dropLast := by
  unfold cut
  rw [List.dropLast_eq_take, HT.sIx_none]
  have e : HT.sIx xs.length xs.length (some (-1)) = xs.length - 1 := by
    show (if (-1 : Int) < 0 then (-1 + (xs.length : Int)).toNat else min (-1 : Int).toNat xs.length) = xs.length - 1
    rw [if_pos (by omega)]
    omega
  rw [e]
  simp
theorem at_last (xs : List D) (h : xs ≠ []) : L2.atI xs (-1) = some (xs.getLast h) := by
  have hl : 0 < xs.length := List.length_pos_iff.mpr h
  unfold L2.atI L2.ixN
  rw [if_neg (by omega), if_pos (by omega)]
  have e : (-1 + (xs.length : Int)).toNat = xs.length - 1 := by omega
  simp only [Option.bind_some, e]
  rw [List.getElem?_eq_getElem (by omega), List.getLast_eq_getElem]
theorem at_nat (xs : List D) (k : Nat) (d : D) (h : xs[k]? = some d) : L2.atI xs (k : Int) = some d := by
  have hl : k < xs.length := by
    rcases Nat.lt_or_ge k xs.length with z | z
    · exact z
    · rw [List.getElem?_eq_none z] at h; cases h
  unfold L2.atI L2.ixN
  rw [if_pos (by omega), if_pos (by omega)]
  simpa using h
/-! comprehensions -/
variable {G : Nat → Option D} {C : Call}
theorem compL_map {α : Type} {F : D → Store → Res (Option D)} {S : Store} {f g : α → D} : ∀ (l : List α) (acc : List D), acc.length + l.length ≤ big → (∀ x ∈ l, F (f x) S = .ok (some (g x)) S) → compL F (l.map f) acc S = .ok (.list (acc ++ l.map g)) S
  | [], acc, _, _ => by simp [compL]
  | x :: l, acc, hl, h => by
    rw [List.map_cons, compL, h x (List.mem_cons_self ..)]
    simp only
    rw [if_pos (by simp at hl; omega), compL_map l (acc ++ [g x]) (by simp at hl ⊢; omega) fun y hy => h y (List.mem_cons_of_mem _ hy)]
    simp
theorem compL_filter {α : Type} {F : D → Store → Res (Option D)} {S : Store} {f g : α → D} {p : α → Bool} : ∀ (l : List α) (acc : List D), acc.length + l.length ≤ big → (∀ x ∈ l, F (f x) S = .ok (if p x then some (g x) else none) S) → compL F (l.map f) acc S = .ok (.list (acc ++ (l.filter p).map g)) S
  | [], acc, _, _ => by simp [compL]
  | x :: l, acc, hl, h => by
    rw [List.map_cons, compL, h x (List.mem_cons_self ..)]
    cases hp : p x with
    | true =>
      simp only [if_true]
      rw [if_pos (by simp at hl; omega), compL_filter l (acc ++ [g x]) (by simp at hl ⊢; omega) fun y hy => h y (List.mem_cons_of_mem _ hy)]
      simp [hp]
    | false =>
      simp only [Bool.false_eq_true, if_false]
      rw [compL_filter l acc (by simp at hl ⊢; omega) fun y hy => h y (List.mem_cons_of_mem _ hy)]
      simp [hp]
def evB (G : Nat → Option D) (C : Call) (e : E) (o : Option Env) (S : Store) : Res D := match o with
  | some r => ev G C e r S
  | none => .bad
@[simp] theorem evB_some (e : E) (r : Env) (S : Store) : evB G C e (some r) S = ev G C e r S := rfl
theorem comp_map {α : Type} (l : List α) (f g : α → D) {elt : E} {tg : Tg} {it : Itr} {own : List Nat} {r : Env} {S S1 : Store} (hit : evj G C it r S = .ok (.list (l.map f)) S1) (hl : l.length ≤ big) (h : ∀ x ∈ l, evB G C elt (bindTg tg (f x) (wipe r own)) S1 = .ok (g x) S1) :
    ev G C (.comp elt tg it .none own) r S = .ok (.list (l.map g)) S1 := by
  rw [ev, hit]
  simp only [bind_ok, viewS_list, lockL]
  rw [compL_map (g := g) l [] (by simpa using hl) fun x hx => ?_]
  · simp [Res.mapS]
  · have := h x hx
    unfold evB at this
    cases hb : bindTg tg (f x) (wipe r own) with
    | none => rw [hb] at this; cases this
    | some r' =>
      rw [hb] at this
      simp only at this
      simp [evo, this]
theorem comp_filter {α : Type} (l : List α) (f g : α → D) (p : α → Bool) {elt c : E} {tg : Tg} {it : Itr} {own : List Nat} {r : Env} {S S1 : Store} (hit : evj G C it r S = .ok (.list (l.map f)) S1) (hl : l.length ≤ big) (hc : ∀ x ∈ l, evB G C c (bindTg tg (f x) (wipe r own)) S1 = .ok (.bool (p x)) S1) (h : ∀ x ∈ l, p x = true → evB G C elt (bindTg tg (f x) (wipe r own)) S1 = .ok (g x) S1) :
    ev G C (.comp elt tg it (.some c) own) r S = .ok (.list ((l.filter p).map g)) S1 := by
  rw [ev, hit]
  simp only [bind_ok, viewS_list, lockL]
  rw [compL_filter (g := g) (p := p) l [] (by simpa using hl) fun x hx => ?_]
  · simp [Res.mapS]
  · have h1 := hc x hx
    have h2 := h x hx
    unfold evB at h1 h2
    cases hb : bindTg tg (f x) (wipe r own) with
    | none => rw [hb] at h1; cases h1
    | some r' =>
      rw [hb] at h1 h2
      simp only at h1 h2
      simp only [evo, h1, bind_ok, tru_b]
      cases hp : p x with
      | true => simp [h2 hp]
      | false => simp
end MP
end

section
set_option Elab.async false
set_option linter.all false
set_option maxRecDepth 100000
set_option maxHeartbeats 4000000
set_option autoImplicit false
namespace MP
open PySem
theorem mapO_id {f : D → Option D} : ∀ {xs : List D}, (∀ x ∈ xs, f x = some x) → mapO f xs = some xs
  | [], _ => rfl
  | x :: xs, h => by
    rw [mapO, h x (List.mem_cons_self ..)]
    simp only
    rw [mapO_id fun y hy => h y (List.mem_cons_of_mem _ hy)]
theorem plainAll_mem : ∀ {xs : List D}, PyData.plainAll xs = true → ∀ x ∈ xs, x.plain = true
  | [], _, _, h => by cases h
  | y :: xs, h, x, hx => by
    rw [PyData.plainAll, Bool.and_eq_true] at h
    rcases List.mem_cons.mp hx with rfl | hx
    · exact h.1
    · exact plainAll_mem h.2 x hx
theorem depthAll_mem : ∀ {xs : List D} {n : Nat}, PyData.depthAll xs ≤ n → ∀ x ∈ xs, x.depth ≤ n
  | [], _, _, _, h => by cases h
  | y :: xs, n, h, x, hx => by
    rw [PyData.depthAll] at h
    rcases List.mem_cons.mp hx with rfl | hx
    · exact Nat.le_trans (Nat.le_max_left _ _) h
    · exact depthAll_mem (Nat.le_trans (Nat.le_max_right _ _) h) x hx
theorem plainAll_of : ∀ {xs : List D}, (∀ x ∈ xs, x.plain = true) → PyData.plainAll xs = true
  | [], _ => rfl
  | y :: xs, h => by
    rw [PyData.plainAll, h y (List.mem_cons_self ..), plainAll_of fun x hx => h x (List.mem_cons_of_mem _ hx)]; rfl
theorem depthAll_of {n : Nat} : ∀ {xs : List D}, (∀ x ∈ xs, x.depth ≤ n) → PyData.depthAll xs ≤ n
  | [], _ => Nat.zero_le _
  | y :: xs, h => by
    rw [PyData.depthAll]
    exact Nat.max_le.mpr ⟨h y (List.mem_cons_self ..), depthAll_of fun x hx => h x (List.mem_cons_of_mem _ hx)⟩
/-- plain, at most n levels -/
structure Pz (n : Nat) (d : D) : Prop where
  pl : d.plain = true
  dp : d.depth ≤ n
theorem Pz.mono {n m : Nat} {d : D} (h : Pz n d) (hm : n ≤ m) : Pz m d := ⟨h.pl, Nat.le_trans h.dp hm⟩
theorem Pz.int (n : Nat) (i : Int) : Pz n (.int i) := ⟨rfl, Nat.zero_le _⟩
theorem Pz.bool (n : Nat) (i : Bool) : Pz n (.bool i) := ⟨rfl, Nat.zero_le _⟩
theorem Pz.none (n : Nat) : Pz n .none := ⟨rfl, Nat.zero_le _⟩
theorem Pz.str (n : Nat) (i : Str) : Pz n (.str i) := ⟨rfl, Nat.zero_le _⟩
theorem Pz.list {n : Nat} {xs : List D} (h : ∀ x ∈ xs, Pz n x) : Pz (n + 1) (.list xs) := ⟨by rw [PyData.plain]; exact plainAll_of fun x hx => (h x hx).pl, by rw [PyData.depth]; exact Nat.succ_le_succ (depthAll_of fun x hx => (h x hx).dp)⟩
theorem Pz.tuple {n : Nat} {xs : List D} (h : ∀ x ∈ xs, Pz n x) : Pz (n + 1) (.tuple xs) := ⟨by rw [PyData.plain]; exact plainAll_of fun x hx => (h x hx).pl, by rw [PyData.depth]; exact Nat.succ_le_succ (depthAll_of fun x hx => (h x hx).dp)⟩
theorem Pz.map {α : Type} {n : Nat} {f : α → D} {l : List α} (h : ∀ x ∈ l, Pz n (f x)) : Pz (n + 1) (.list (l.map f)) := Pz.list fun x hx => by
  obtain ⟨y, hy, rfl⟩ := List.mem_map.mp hx
  exact h y hy
theorem Pz.iL (n : Nat) (r : List Int) : Pz (n + 1) (iL r) := Pz.map fun x _ => Pz.int n x
theorem Pz.tL (n : Nat) (s : List (List Int)) : Pz (n + 2) (tL s) := Pz.map fun x _ => Pz.iL n x
theorem Pz.pair {n : Nat} {a b : D} (ha : Pz n a) (hb : Pz n b) : Pz (n + 1) (.tuple [a, b]) := Pz.tuple fun x hx => by
  simp at hx
  rcases hx with rfl | rfl <;> assumption
theorem Pz.triple {n : Nat} {a b c : D} (ha : Pz n a) (hb : Pz n b) (hc : Pz n c) : Pz (n + 1) (.tuple [a, b, c]) := Pz.tuple fun x hx => by
  simp at hx
  rcases hx with rfl | rfl | rfl <;> assumption
theorem Pz.res {S : Store} : ∀ {n : Nat} {d : D}, Pz n d → resolve S (n + 1) d = some d
  | n, .none, _ => rfl
  | n, .bool _, _ => rfl
  | n, .int _, _ => rfl
  | n, .str _, _ => rfl
  | n, .dict _, h => by cases h.pl
  | 0, .list _, h => by have := h.dp; rw [PyData.depth] at this; omega
  | 0, .tuple _, h => by have := h.dp; rw [PyData.depth] at this; omega
  | n + 1, .list xs, h => by
    have hp := h.pl
    have hd := h.dp
    rw [PyData.plain] at hp
    rw [PyData.depth] at hd
    rw [resolve, mapO_id fun x hx => Pz.res ⟨plainAll_mem hp x hx, depthAll_mem (by omega) x hx⟩]; rfl
  | n + 1, .tuple xs, h => by
    have hp := h.pl
    have hd := h.dp
    rw [PyData.plain] at hp
    rw [PyData.depth] at hd
    rw [resolve, mapO_id fun x hx => Pz.res ⟨plainAll_mem hp x hx, depthAll_mem (by omega) x hx⟩]; rfl
theorem Pz.rz {S : Store} {d : D} (h : Pz 7 d) : rz S d = some d := h.res
theorem Pz.eqX {S : Store} {a b : D} (ha : Pz 7 a) (hb : Pz 7 b) : MP.eqX S a b = some (PyData.eqv a b) := by
  unfold MP.eqX
  split
  · cases ha.pl
  · unfold eqD; rw [ha.rz, hb.rz]
theorem Pz.eq {S : Store} {a b : D} (ha : Pz 7 a) (hb : Pz 7 b) : cmpD S .eq a b = some (PyData.eqv a b) := ha.eqX hb
theorem Pz.ne {S : Store} {a b : D} (ha : Pz 7 a) (hb : Pz 7 b) : cmpD S .ne a b = some (!PyData.eqv a b) := by
  unfold cmpD; rw [ha.eqX hb]; rfl
theorem Pz.eqS {S : Store} {a : D} (ha : Pz 7 a) : cmpD S .eq a a = some true := by rw [ha.eq ha, SeqAt.eqv_refl_plain a ha.pl]
theorem Pz.neS {S : Store} {a : D} (ha : Pz 7 a) : cmpD S .ne a a = some false := by rw [ha.ne ha, SeqAt.eqv_refl_plain a ha.pl]; rfl
@[simp] theorem eq_int (S : Store) (i j : Int) : cmpD S .eq (.int i) (.int j) = some (i == j) := by rw [(Pz.int 7 i).eq (Pz.int 7 j), PyData.eqv]
@[simp] theorem ne_int (S : Store) (i j : Int) : cmpD S .ne (.int i) (.int j) = some (!(i == j)) := by rw [(Pz.int 7 i).ne (Pz.int 7 j), PyData.eqv]
@[simp] theorem le_int (S : Store) (i j : Int) : cmpD S .le (.int i) (.int j) = some (decide (i ≤ j)) := rfl
@[simp] theorem ge_int (S : Store) (i j : Int) : cmpD S .ge (.int i) (.int j) = some (decide (j ≤ i)) := rfl
@[simp] theorem lt_int (S : Store) (i j : Int) : cmpD S .lt (.int i) (.int j) = some (decide (i < j)) := rfl
@[simp] theorem gt_int (S : Store) (i j : Int) : cmpD S .gt (.int i) (.int j) = some (decide (j < i)) := rfl
theorem truA_rep (b : Bool) : ∀ n : Nat, mapO truA (List.replicate n (.bool b)) = some (List.replicate n b)
  | 0 => rfl
  | n + 1 => by rw [List.replicate_succ, mapO, truA_rep b n]; rfl
theorem map_rep {α β : Type} (l : List α) (b : β) : l.map (fun _ => b) = List.replicate l.length b := List.map_const' ..
variable {G : Nat → Option D} {C : Call}
theorem comp_mapS {α : Type} (l : List α) (f g : α → D) {elt : E} {tg : Tg} {it : Itr} {own : List Nat} {r : Env} {S : Store} (hit : evj G C it r S = .ok (.list (l.map f)) S) (hl : l.length ≤ big) (h : ∀ x ∈ l, evB G C elt (bindTg tg (f x) (wipe r own)) S = .ok (g x) S) :
    ev G C (.comp elt tg it .none own) r S = .ok (.list (l.map g)) S := comp_map l f g hit hl h
theorem comp_filterS {α : Type} (l : List α) (f g : α → D) (p : α → Bool) {elt c : E} {tg : Tg} {it : Itr} {own : List Nat} {r : Env} {S : Store} (hit : evj G C it r S = .ok (.list (l.map f)) S) (hl : l.length ≤ big) (hc : ∀ x ∈ l, evB G C c (bindTg tg (f x) (wipe r own)) S = .ok (.bool (p x)) S) (h : ∀ x ∈ l, p x = true → evB G C elt (bindTg tg (f x) (wipe r own)) S = .ok (g x) S) :
    ev G C (.comp elt tg it (.some c) own) r S = .ok (.list ((l.filter p).map g)) S := comp_filter l f g p hit hl hc h
@[simp] theorem is_tt (S : Store) (b : Bool) : cmpD S .isnot (.bool b) (.bool true) = some (!b) := by cases b <;> rfl
end MP
end

section
set_option Elab.async false
set_option linter.all false
set_option maxRecDepth 100000
set_option maxHeartbeats 4000000
set_option autoImplicit false
namespace MP
open PySem
theorem inR_nat {n : Nat} (h : n ≤ 1000) : inR (n : Int) = true := by
  unfold inR
  have h1 : -(2 ^ 62) ≤ (n : Int) := by omega
  have h2 : (n : Int) < 2 ^ 62 := by omega
  rw [decide_eq_true h1, decide_eq_true h2]; rfl
theorem evrng {G : Nat → Option D} {C : Call} {e : E} {r : MP.Env} {S : Store} {n : Nat} (h : ev G C e r S = .ok (.int n) S) (hn : n ≤ 1000) : evj G C (.rng1 e) r S = .ok (.list ((List.range n).map fun k : Nat => .int (k : Int))) S := by
  rw [evj, h, bind_ok]
  show okI (inR (n : Int)) (.list (rangeL 0 (n : Int).toNat)) S = _
  rw [inR_nat hn, okI_true, Int.toNat_natCast, range0]
end MP
end

section
set_option Elab.async false
set_option linter.all false
set_option maxRecDepth 100000
set_option maxHeartbeats 4000000
set_option autoImplicit false
namespace MP
open PySem
theorem forL_rel {α : Type} {F : D → Env → Store → SR} (f : α → D) (P : List α → Env → Store → Prop) (h : ∀ x l r S, P (x :: l) r S → ∃ r' S', F (f x) r S = .ok (.nx, r') S' ∧ P l r' S') : ∀ (l : List α) (r : Env) (S : Store), P l r S → ∃ r' S', forL F (l.map f) r S = .ok (.nx, r') S' ∧ P [] r' S'
  | [], r, S, p => ⟨r, S, rfl, p⟩
  | x :: l, r, S, p => by
    obtain ⟨r1, S1, e, p1⟩ := h x l r S p
    obtain ⟨r2, S2, e2, p2⟩ := forL_rel f P h l r1 S1 p1
    exact ⟨r2, S2, by rw [List.map_cons, forL, e]; exact e2, p2⟩
theorem bT_nm (i : Nat) (d : D) (r : Env) : bindTg (.nm i) d r = some (r.set i (some d)) := by rw [bindTg]
theorem bT_tp (ts : Tgs) (xs : List D) (r : Env) : bindTg (.tp ts) (.tuple xs) r = bindTgs ts xs r := by rw [bindTg]
theorem bTs_nil (r : Env) : bindTgs .nil [] r = some r := by rw [bindTgs]
theorem bTs_cons (t : Tg) (ts : Tgs) (x : D) (xs : List D) (r r' : Env) (h : bindTg t x r = some r') : bindTgs (.cons t ts) (x :: xs) r = bindTgs ts xs r' := by rw [bindTgs, h]
theorem bTs_nm (i : Nat) (ts : Tgs) (x : D) (xs : List D) (r : Env) : bindTgs (.cons (.nm i) ts) (x :: xs) r = bindTgs ts xs (r.set i (some x)) := bTs_cons _ _ _ _ _ _ (bT_nm ..)
theorem bTs_tp2 (i j : Nat) (ts : Tgs) (x y : D) (xs : List D) (r : Env) : bindTgs (.cons (.tp (.cons (.nm i) (.cons (.nm j) .nil))) ts) (.tuple [x, y] :: xs) r = bindTgs ts xs ((r.set i (some x)).set j (some y)) := bTs_cons _ _ _ _ _ _ (by rw [bT_tp, bTs_nm, bTs_nm, bTs_nil])
def forF (G : Nat → Option D) (C : Call) (tg : Tg) (body : Ss) (x : D) (r : Env) (S : Store) : SR := match bindTg tg x r with
  | some r2 => exs G C body r2 S
  | none => .bad
theorem forF_nm (G : Nat → Option D) (C : Call) (i : Nat) (body : Ss) (x : D) (r : Env) (S : Store) : forF G C (.nm i) body x r S = exs G C body (r.set i (some x)) S := by
  unfold forF; rw [bT_nm]
theorem forF_of {G : Nat → Option D} {C : Call} {tg : Tg} {body : Ss} {x : D} {r r2 : Env} {S : Store} (h : bindTg tg x r = some r2) : forF G C tg body x r S = exs G C body r2 S := by
  unfold forF; rw [h]
theorem ex_for {G : Nat → Option D} {C : Call} {tg : Tg} {it : Itr} {body : Ss} {r : Env} {S S1 : Store} {items : List D} {res : SR} (hit : evj G C it r S = .ok (.list items) S1) (hf : forL (forF G C tg body) items r S1 = res) : ex G C (.for_ tg it body) r S = res := by
  rw [ex, hit, bind_ok]; exact hf
theorem exs_nx {G : Nat → Option D} {C : Call} {s : MP.S} {ss : Ss} {r r' : Env} {S S' : Store} (h : ex G C s r S = .ok (.nx, r') S') : exs G C (.cons s ss) r S = exs G C ss r' S' := by rw [exs, h]
theorem exs_rt {G : Nat → Option D} {C : Call} {s : MP.S} {ss : Ss} {r r' : Env} {S S' : Store} {d : D} (h : ex G C s r S = .ok (.rt d, r') S') : exs G C (.cons s ss) r S = .ok (.rt d, r') S' := by rw [exs, h]
theorem fin_rt (d : D) (r : Env) (S : Store) : fin (.ok (.rt d, r) S) = .ok d S := rfl
@[simp] theorem asRef_rf (n : Nat) : asRef (rf n) = some n := rfl
@[simp] theorem asRef_int (i : Int) : asRef (.int i) = none := rfl
theorem mapFz_id {k : Nat} : ∀ (xs : List D) (S : Store), (∀ x ∈ xs, asRef x = none) → mapFz (freeze (k + 1)) xs S = some (xs, S)
  | [], _, _ => rfl
  | x :: xs, S, h => by
    rw [mapFz, freeze, h x (List.mem_cons_self ..)]
    simp only
    rw [mapFz_id xs S fun y hy => h y (List.mem_cons_of_mem _ hy)]
theorem freeze_lst {k n : Nat} {xs : List D} {S : Store} (h : S[n]? = some (.lst xs)) (hx : ∀ x ∈ xs, asRef x = none) : freeze (k + 2) (rf n) S = some (.list xs, S.set n .dead) := by
  rw [freeze, asRef_rf]
  simp only [h]
  rw [mapFz_id xs _ hx]
theorem eqv_nil (xs : List D) : PyData.eqv (.list xs) (.list []) = xs.isEmpty := by
  cases xs <;> simp [PyData.eqv, PyData.eqvAll]
theorem get_end (S : Store) (o : Ob) : (S ++ [o])[S.length]? = some o := by simp
theorem set_end (S : Store) (o p : Ob) : (S ++ [o]).set S.length p = S ++ [p] := by simp
/-- the comprehension's list when every item makes one new object -/
theorem compL_new {α : Type} {F : D → Store → Res (Option D)} {f : α → D} {o : α → Ob} : ∀ (l : List α) (acc : List D) (S : Store), acc.length + l.length ≤ big → (∀ x ∈ l, ∀ S, F (f x) S = .ok (some (rf S.length)) (S ++ [o x])) → compL F (l.map f) acc S = .ok (.list (acc ++ (List.range l.length).map fun i => rf (S.length + i))) (S ++ l.map o)
  | [], acc, S, _, _ => by simp [compL]
  | x :: l, acc, S, hl, h => by
    rw [List.map_cons, compL, h x (List.mem_cons_self ..)]
    simp only
    rw [if_pos (by simp at hl; omega), compL_new l (acc ++ [rf S.length]) (S ++ [o x]) (by simp at hl ⊢; omega) fun y hy => h y (List.mem_cons_of_mem _ hy)]
    rw [List.length_cons, List.range_succ_eq_map, List.map_cons, List.map_map]
    simp [Function.comp_def, Nat.add_assoc, Nat.add_comm 1]
end MP
end

section
set_option Elab.async false
set_option linter.all false
set_option maxRecDepth 100000
set_option maxHeartbeats 4000000
set_option autoImplicit false
namespace MP
open PySem
theorem compL_rel {F : D → Store → Res (Option D)} (P : Store → Prop) (Q : D → Prop) : ∀ (items : List D) (acc : List D) (S : Store), acc.length + items.length ≤ big → P S → (∀ x ∈ items, ∀ S, P S → ∃ y S', F x S = .ok (some y) S' ∧ Q y ∧ P S') → ∃ ys S', compL F items acc S = .ok (.list (acc ++ ys)) S' ∧ ys.length = items.length ∧ (∀ y ∈ ys, Q y) ∧ P S'
  | [], acc, S, _, p, _ => ⟨[], S, by simp [compL], rfl, by simp, p⟩
  | x :: items, acc, S, hl, p, h => by
    obtain ⟨y, S1, e, q, p1⟩ := h x (List.mem_cons_self ..) S p
    obtain ⟨ys, S2, e2, l2, q2, p2⟩ := compL_rel P Q items (acc ++ [y]) S1 (by simp at hl ⊢; omega) p1 fun z hz => h z (List.mem_cons_of_mem _ hz)
    refine ⟨y :: ys, S2, ?_, by simp [l2], fun z hz => ?_, p2⟩
    · rw [compL, e]
      simp only
      rw [if_pos (by simp at hl; omega), e2]
      simp
    · rcases List.mem_cons.mp hz with rfl | hz
      · exact q
      · exact q2 z hz
theorem comp_rel {G : Nat → Option D} {C : Call} (P : Store → Prop) (Q : D → Prop) {items : List D} {elt : E} {tg : Tg} {it : Itr} {own : List Nat} {r : Env} {S S1 : Store} (hit : evj G C it r S = .ok (.list items) S1) (hl : items.length ≤ big) (p : P S1) (h : ∀ x ∈ items, ∀ S, P S → ∃ y S', evB G C elt (bindTg tg x (wipe r own)) S = .ok y S' ∧ Q y ∧ P S') :
    ∃ ys S', ev G C (.comp elt tg it .none own) r S = .ok (.list ys) S' ∧ ys.length = items.length ∧ (∀ y ∈ ys, Q y) ∧ P S' := by
  have main : ∀ F : D → Store → Res (Option D), (∀ x S, F x S = (evB G C elt (bindTg tg x (wipe r own)) S).bind fun y S3 => .ok (some y) S3) → ∃ ys S', (compL F items [] S1).mapS (fun S' => unlock S1 S' (.list items)) = .ok (.list ys) S' ∧ ys.length = items.length ∧ (∀ y ∈ ys, Q y) ∧ P S' := fun F hF => by
    obtain ⟨ys, S', e, l, q, p'⟩ := compL_rel (F := F) P Q items [] S1 (by simpa using hl) p fun x hx S ps => by
      obtain ⟨y, S', e, q, p'⟩ := h x hx S ps
      exact ⟨y, S', by rw [hF, e]; rfl, q, p'⟩
    exact ⟨ys, S', by rw [e]; rfl, l, q, p'⟩
  rw [ev, hit]
  simp only [bind_ok, viewS_list, lockL]
  refine main _ fun x S => ?_
  cases bindTg tg x (wipe r own) with
  | none => rfl
  | some r' => simp only [evo, bind_ok, evB_some]
theorem choose_list {α : Type} (f : α → D) (p : α → Prop) : ∀ ys : List D, (∀ y ∈ ys, ∃ v, y = f v ∧ p v) → ∃ vs : List α, ys = vs.map f ∧ ∀ v ∈ vs, p v
  | [], _ => ⟨[], rfl, by simp⟩
  | y :: ys, h => by
    obtain ⟨v, rfl, hv⟩ := h y (List.mem_cons_self ..)
    obtain ⟨vs, rfl, hvs⟩ := choose_list f p ys fun z hz => h z (List.mem_cons_of_mem _ hz)
    exact ⟨v :: vs, rfl, fun z hz => by
      rcases List.mem_cons.mp hz with rfl | hz
      · exact hv
      · exact hvs z hz⟩
end MP
end

section
set_option Elab.async false
set_option linter.all false
set_option maxRecDepth 100000
set_option maxHeartbeats 4000000
set_option autoImplicit false
/-! laws whose runs the kernel evaluates -/
namespace MP
open PySem
def app : Ss → Ss → Ss
  | .nil, b => b
  | .cons s a, b => .cons s (app a b)
theorem exs_app {G : Nat → Option D} {C : Call} : ∀ (a b : Ss) {r r' : Env} {S S' : Store}, exs G C a r S = .ok (.nx, r') S' → exs G C (app a b) r S = exs G C b r' S'
  | .nil, b, r, r', S, S', h => by
    rw [exs] at h
    cases h
    rfl
  | .cons s a, b, r, r', S, S', h => by
    show exs G C (.cons s (app a b)) r S = _
    rw [exs] at h ⊢
    match hx : ex G C s r S with
    | .bad => rw [hx] at h; cases h
    | .exc n S1 => rw [hx] at h; cases h
    | .ok (.nx, r1) S1 =>
      rw [hx] at h
      exact exs_app a b h
    | .ok (.rt d, r1) S1 => rw [hx] at h; cases h
    | .ok (.bk, r1) S1 => rw [hx] at h; cases h
def isT : SR → Bool
  | .ok (.rt (.bool true), _) _ => true
  | _ => false
theorem isT_ok {x : SR} (h : isT x = true) : ∃ r' S', x = .ok (.rt (.bool true), r') S' := by
  unfold isT at h
  split at h
  · exact ⟨_, _, rfl⟩
  · cases h
def envOf : SR → Env
  | .ok (_, r) _ => r
  | _ => []
def restOf : SR → Store
  | .ok _ S => S.drop 2
  | _ => []
/-- the draws' store -/
def DQ (c0 : List D) (n : Int) (rest : Store) : Store := .lst c0 :: .lst [rf 0, .int n] :: rest
end MP
end

section
set_option Elab.async false
set_option linter.all false
set_option maxRecDepth 100000
set_option maxHeartbeats 0

namespace K16
open PySem PySem.Spec PyProof.Rows L2 MP
def top0 (i : Nat) : PySem.Stmt := PySem.Challenge.pw_crosssums_k16_examples.main.body.getD i (.Pass ⟨0, 0, 0, 0⟩)
def top (i : Nat) : PySem.Stmt := if i < 1000 then top0 i else (clsBody (top0 66)).getD (i - 1000) (.Pass ⟨0, 0, 0, 0⟩)
def id__wall : Nat := 0
def id_is_int : Nat := 1
def id_is_block : Nat := 2
def id_is_sheet : Nat := 3
def id_check_sheet : Nat := 4
def id_is_table : Nat := 5
def id_check_table : Nat := 6
def id_check_place : Nat := 7
def id_check_sums : Nat := 8
def id_check_most : Nat := 9
def id_row_gap : Nat := 10
def id_rows_of : Nat := 11
def id_columns_of : Nat := 12
def id_row_gaps : Nat := 13
def id_column_gaps : Nat := 14
def id_right : Nat := 15
def id_turned : Nat := 16
def id_common_gap : Nat := 17
def id_sign : Nat := 18
def id_check_changes : Nat := 19
def id_is_place : Nat := 20
def id_put : Nat := 21
def id_moved_by : Nat := 22
def id_within : Nat := 23
def id_single_mends : Nat := 24
def id_entry_for : Nat := 25
def id_completed : Nat := 26
def id_nodes_of : Nat := 27
def id_is_balanced : Nat := 28
def id_parts_with_first : Nat := 29
def id_best_parts : Nat := 30
def id_fewest : Nat := 31
def id_gap_changes : Nat := 32
def id_check_kind : Nat := 33
def id_chosen : Nat := 34
def id_is_cut : Nat := 35
def id_cut_of : Nat := 36
def id_can_be : Nat := 37
def id_rows_with : Nat := 38
def id_ways_from : Nat := 39
def id_count_tables : Nat := 40
def id_check_cell : Nat := 41
def id_exists : Nat := 42
def id_counted : Nat := 43
def id_fills : Nat := 44
def id_cell_range : Nat := 45
def id_sure_cells : Nat := 46
def id_transposed : Nat := 47
def id_format_table : Nat := 48
def id__law_draw : Nat := 49
def id__law_first : Nat := 50
def id__law_second : Nat := 51
def id_Ledger___init__ : Nat := 52
def id_Ledger_enter : Nat := 53
def id_Ledger_sheet : Nat := 54
def id_Ledger_gaps : Nat := 55
def id_Ledger_undo : Nat := 56
def id_Ledger___len__ : Nat := 57
def l__wall_1 : MP.S := .whil (.bl true) (.cons .pass
  .nil)
def b__wall : Ss := (.cons l__wall_1
  .nil)
def r__wall : MP.Row := ⟨"_wall", false, ["k"], 1, 0, b__wall⟩
def b_is_int : Ss := (.cons (.ret (.and (.prim .isint (.cons (.var 0) .nil)) (.and (.nt (.prim .isbool (.cons (.var 0) .nil))) (.chain .le .le (.var 1) (.var 0) (.var 2)))))
  .nil)
def r_is_int : MP.Row := ⟨"is_int", false, ["value", "low", "high"], 3, 10, b_is_int⟩
def q_is_block_1 : E := .comp (.and (.prim .islist (.cons (.var 5) .nil)) (.chain .le .le (.var 1) (.prim .len (.cons (.var 5) .nil)) (.var 2))) (.nm 5) (.of (.var 0)) .none [5]
def q_is_block_2 : E := .comp (.cmp .eq (.prim .len (.cons (.var 5) .nil)) (.prim .len (.cons (.ix (.var 0) (.int 0)) .nil))) (.nm 5) (.of (.var 0)) .none [5]
def q_is_block_3 : E := .comp (.call id_is_int (.cons (.var 6) (.cons (.var 3) (.cons (.var 4) .nil)))) (.nm 6) (.of (.var 5)) .none [6]
def q_is_block_4 : E := .comp (.prim .all (.cons q_is_block_3 .nil)) (.nm 5) (.of (.var 0)) .none [5]
def b_is_block : Ss := (.cons (.ite (.or (.nt (.prim .islist (.cons (.var 0) .nil))) (.nt (.chain .le .le (.var 1) (.prim .len (.cons (.var 0) .nil)) (.var 2)))) (.cons (.ret (.bl false))
  .nil) .nil)
  (.cons (.ite (.nt (.prim .all (.cons q_is_block_1 .nil))) (.cons (.ret (.bl false))
  .nil) .nil)
  (.cons (.ite (.nt (.prim .all (.cons q_is_block_2 .nil))) (.cons (.ret (.bl false))
  .nil) .nil)
  (.cons (.ret (.prim .all (.cons q_is_block_4 .nil)))
  .nil))))
def r_is_block : MP.Row := ⟨"is_block", false, ["value", "low", "high", "least", "most", "row", "entry"], 5, 11, b_is_block⟩
def b_is_sheet : Ss := (.cons (.ret (.call id_is_block (.cons (.var 0) (.cons (.int 2) (.cons (.int 4) (.cons (.neg (.glob 0)) (.cons (.glob 0) .nil)))))))
  .nil)
def r_is_sheet : MP.Row := ⟨"is_sheet", false, ["value"], 1, 12, b_is_sheet⟩
def b_check_sheet : Ss := (.cons (.ite (.nt (.call id_is_sheet (.cons (.var 0) .nil))) (.cons (.raise 1)
  .nil) .nil)
  .nil)
def r_check_sheet : MP.Row := ⟨"check_sheet", false, ["value"], 1, 13, b_check_sheet⟩
def b_is_table : Ss := (.cons (.ret (.call id_is_block (.cons (.var 0) (.cons (.int 1) (.cons (.int 3) (.cons (.int 0) (.cons (.int 9) .nil)))))))
  .nil)
def r_is_table : MP.Row := ⟨"is_table", false, ["value"], 1, 14, b_is_table⟩
def b_check_table : Ss := (.cons (.ite (.nt (.call id_is_table (.cons (.var 0) .nil))) (.cons (.raise 2)
  .nil) .nil)
  .nil)
def r_check_table : MP.Row := ⟨"check_table", false, ["value"], 1, 15, b_check_table⟩
def b_check_place : Ss := (.cons (.ite (.or (.nt (.prim .istuple (.cons (.var 1) .nil))) (.cmp .ne (.prim .len (.cons (.var 1) .nil)) (.int 2))) (.cons (.raise 4)
  .nil) .nil)
  (.cons (.ite (.or (.nt (.call id_is_int (.cons (.ix (.var 1) (.int 0)) (.cons (.int 0) (.cons (.bin .sub (.prim .len (.cons (.var 0) .nil)) (.int 1)) .nil))))) (.nt (.call id_is_int (.cons (.ix (.var 1) (.int 1)) (.cons (.int 0) (.cons (.bin .sub (.prim .len (.cons (.ix (.var 0) (.int 0)) .nil)) (.int 1)) .nil)))))) (.cons (.raise 4)
  .nil) .nil)
  .nil))
def r_check_place : MP.Row := ⟨"check_place", false, ["sheet", "value"], 2, 16, b_check_place⟩
def q_check_sums_1 : E := .comp (.call id_is_int (.cons (.var 1) (.cons (.int 0) (.cons (.int 27) .nil)))) (.nm 1) (.of (.var 0)) .none [1]
def b_check_sums : Ss := (.cons (.ite (.or (.nt (.prim .islist (.cons (.var 0) .nil))) (.or (.nt (.chain .le .le (.int 1) (.prim .len (.cons (.var 0) .nil)) (.int 3))) (.nt (.prim .all (.cons q_check_sums_1 .nil))))) (.cons (.raise 3)
  .nil) .nil)
  .nil)
def r_check_sums : MP.Row := ⟨"check_sums", false, ["value", "one"], 1, 17, b_check_sums⟩
def b_check_most : Ss := (.cons (.ite (.nt (.call id_is_int (.cons (.var 0) (.cons (.int 0) (.cons (.int 9) .nil))))) (.cons (.raise 4)
  .nil) .nil)
  .nil)
def r_check_most : MP.Row := ⟨"check_most", false, ["value"], 1, 18, b_check_most⟩
def b_row_gap : Ss := (.cons (.ret (.bin .sub (.prim .sum (.cons (.slc (.var 0) .none (.some (.neg (.int 1)))) .nil)) (.ix (.var 0) (.neg (.int 1)))))
  .nil)
def r_row_gap : MP.Row := ⟨"row_gap", false, ["row"], 1, 20, b_row_gap⟩
def q_rows_of_1 : E := .comp (.call id_row_gap (.cons (.var 1) .nil)) (.nm 1) (.of (.var 0)) .none [1]
def b_rows_of : Ss := (.cons (.ret q_rows_of_1)
  .nil)
def r_rows_of : MP.Row := ⟨"rows_of", false, ["sheet", "row"], 1, 21, b_rows_of⟩
def q_columns_of_1 : E := .comp (.ix (.var 2) (.var 1)) (.nm 2) (.of (.var 0)) .none [2]
def q_columns_of_2 : E := .comp (.call id_row_gap (.cons q_columns_of_1 .nil)) (.nm 1) (.rng1 (.prim .len (.cons (.ix (.var 0) (.int 0)) .nil))) .none [1]
def b_columns_of : Ss := (.cons (.ret q_columns_of_2)
  .nil)
def r_columns_of : MP.Row := ⟨"columns_of", false, ["sheet", "k", "row"], 1, 22, b_columns_of⟩
def b_row_gaps : Ss := (.cons (.exp (.call id_check_sheet (.cons (.var 0) .nil)))
  (.cons (.ret (.call id_rows_of (.cons (.var 0) .nil)))
  .nil))
def r_row_gaps : MP.Row := ⟨"row_gaps", false, ["sheet"], 1, 23, b_row_gaps⟩
def b_column_gaps : Ss := (.cons (.exp (.call id_check_sheet (.cons (.var 0) .nil)))
  (.cons (.ret (.call id_columns_of (.cons (.var 0) .nil)))
  .nil))
def r_column_gaps : MP.Row := ⟨"column_gaps", false, ["sheet"], 1, 24, b_column_gaps⟩
def b_right : Ss := (.cons (.ret (.and (.nt (.prim .any (.cons (.call id_rows_of (.cons (.var 0) .nil)) .nil))) (.nt (.prim .any (.cons (.call id_columns_of (.cons (.var 0) .nil)) .nil)))))
  .nil)
def r_right : MP.Row := ⟨"right", false, ["sheet"], 1, 25, b_right⟩
def b_turned : Ss := (.cons (.ret (.bin .add (.slc (.var 0) .none (.some (.neg (.int 1)))) (.lst (.cons (.neg (.ix (.var 0) (.neg (.int 1)))) .nil))))
  .nil)
def r_turned : MP.Row := ⟨"turned", false, ["gaps"], 1, 26, b_turned⟩
def b_common_gap : Ss := (.cons (.exp (.call id_check_sheet (.cons (.var 0) .nil)))
  (.cons (.ret (.prim .sum (.cons (.call id_turned (.cons (.call id_rows_of (.cons (.var 0) .nil)) .nil)) .nil)))
  .nil))
def r_common_gap : MP.Row := ⟨"common_gap", false, ["sheet"], 1, 27, b_common_gap⟩
def b_sign : Ss := (.cons (.ret (.ite (.cmp .ne (.cmp .eq (.ix (.var 1) (.int 0)) (.bin .sub (.prim .len (.cons (.var 0) .nil)) (.int 1))) (.cmp .eq (.ix (.var 1) (.int 1)) (.bin .sub (.prim .len (.cons (.ix (.var 0) (.int 0)) .nil)) (.int 1)))) (.neg (.int 1)) (.int 1)))
  .nil)
def r_sign : MP.Row := ⟨"sign", false, ["sheet", "place"], 2, 28, b_sign⟩
def l_check_changes_1 : MP.S := .for_ (.nm 2) (.of (.var 1)) (.cons (.ite (.or (.nt (.prim .istuple (.cons (.var 2) .nil))) (.or (.cmp .ne (.prim .len (.cons (.var 2) .nil)) (.int 2)) (.nt (.call id_is_place (.cons (.var 0) (.cons (.ix (.var 2) (.int 0)) .nil)))))) (.cons (.raise 5)
  .nil) .nil)
  (.cons (.ite (.nt (.call id_is_int (.cons (.ix (.var 2) (.int 1)) (.cons (.neg (.int 999)) (.cons (.int 999) .nil))))) (.cons (.raise 5)
  .nil) .nil)
  .nil))
def q_check_changes_2 : E := .comp (.var 3) (.tp (.cons (.nm 3) (.cons (.nm 4) .nil))) (.of (.var 1)) .none [3, 4]
def b_check_changes : Ss := (.cons (.ite (.or (.nt (.prim .islist (.cons (.var 1) .nil))) (.cmp .gt (.prim .len (.cons (.var 1) .nil)) (.int 16))) (.cons (.raise 5)
  .nil) .nil)
  (.cons l_check_changes_1
  (.cons (.ite (.cmp .ne (.prim .lenset (.cons q_check_changes_2 .nil)) (.prim .len (.cons (.var 1) .nil))) (.cons (.raise 5)
  .nil) .nil)
  .nil)))
def r_check_changes : MP.Row := ⟨"check_changes", false, ["sheet", "changes", "change", "place", "value"], 2, 30, b_check_changes⟩
def b_is_place : Ss := (.cons (.ite (.or (.nt (.prim .istuple (.cons (.var 1) .nil))) (.cmp .ne (.prim .len (.cons (.var 1) .nil)) (.int 2))) (.cons (.ret (.bl false))
  .nil) .nil)
  (.cons (.ret (.and (.call id_is_int (.cons (.ix (.var 1) (.int 0)) (.cons (.int 0) (.cons (.bin .sub (.prim .len (.cons (.var 0) .nil)) (.int 1)) .nil)))) (.call id_is_int (.cons (.ix (.var 1) (.int 1)) (.cons (.int 0) (.cons (.bin .sub (.prim .len (.cons (.ix (.var 0) (.int 0)) .nil)) (.int 1)) .nil))))))
  .nil))
def r_is_place : MP.Row := ⟨"is_place", false, ["sheet", "value"], 2, 31, b_is_place⟩
def q_put_1 : E := .comp (.mt (.prim .list (.cons (.var 4) .nil))) (.nm 4) (.of (.var 0)) .none [4]
def l_put_2 : MP.S := .for_ (.tp (.cons (.tp (.cons (.nm 5) (.cons (.nm 6) .nil))) (.cons (.nm 3) .nil))) (.of (.var 1)) (.cons (.aset (.ix (.var 2) (.var 5)) (.var 6) (.var 3))
  .nil)
def b_put : Ss := (.cons (.asg (.nm 2) (.mt q_put_1))
  (.cons l_put_2
  (.cons (.frz 2)
  (.cons (.ret (.var 2))
  .nil))))
def r_put : MP.Row := ⟨"put", false, ["sheet", "changes", "found", "value", "row", "k", "j"], 2, 32, b_put⟩
def l_moved_by_1 : MP.S := .for_ (.tp (.cons (.nm 3) (.cons (.nm 4) .nil))) (.of (.var 1)) (.cons (.exp (.meth .append (.var 2) (.cons (.tup (.cons (.var 3) (.cons (.bin .sub (.ix (.ix (.var 0) (.ix (.var 3) (.int 0))) (.ix (.var 3) (.int 1))) (.bin .mul (.var 4) (.call id_sign (.cons (.var 0) (.cons (.var 3) .nil))))) .nil))) .nil)))
  .nil)
def b_moved_by : Ss := (.cons (.asg (.nm 2) (.mt (.lst .nil)))
  (.cons l_moved_by_1
  (.cons (.frz 2)
  (.cons (.ret (.prim .sorted (.cons (.var 2) .nil)))
  .nil))))
def r_moved_by : MP.Row := ⟨"moved_by", false, ["sheet", "flows", "found", "place", "flow"], 2, 33, b_moved_by⟩
def q_within_1 : E := .comp (.chain .le .le (.neg (.int 999)) (.var 2) (.int 999)) (.tp (.cons (.nm 1) (.cons (.nm 2) .nil))) (.of (.var 0)) .none [1, 2]
def b_within : Ss := (.cons (.ret (.prim .all (.cons q_within_1 .nil)))
  .nil)
def r_within : MP.Row := ⟨"within", false, ["changes", "place", "value"], 1, 34, b_within⟩
def q_single_mends_1 : E := .comp (.var 11) (.tp (.cons (.nm 10) (.cons (.nm 11) .nil))) (.enum (.var 2)) (.some (.cmp .ne (.var 10) (.var 4))) [10, 11]
def q_single_mends_2 : E := .comp (.var 11) (.tp (.cons (.nm 10) (.cons (.nm 11) .nil))) (.enum (.var 3)) (.some (.cmp .ne (.var 10) (.var 6))) [10, 11]
def l_single_mends_3 : MP.S := .for_ (.tp (.cons (.nm 6) (.cons (.nm 7) .nil))) (.enum (.var 3)) (.cons (.asg (.nm 8) (.bin .add q_single_mends_1 q_single_mends_2))
  (.cons (.ite (.and (.cmp .eq (.var 5) (.var 7)) (.and (.cmp .ne (.var 5) (.int 0)) (.nt (.prim .any (.cons (.var 8) .nil))))) (.cons (.aug 1 .add (.call id_moved_by (.cons (.var 0) (.cons (.lst (.cons (.tup (.cons (.tup (.cons (.var 4) (.cons (.var 6) .nil))) (.cons (.var 5) .nil))) .nil)) .nil))))
  .nil) .nil)
  .nil))
def l_single_mends_4 : MP.S := .for_ (.tp (.cons (.nm 4) (.cons (.nm 5) .nil))) (.enum (.var 2)) (.cons l_single_mends_3
  .nil)
def q_single_mends_5 : E := .comp (.var 9) (.nm 9) (.of (.var 1)) (.some (.call id_within (.cons (.lst (.cons (.var 9) .nil)) .nil))) [9]
def b_single_mends : Ss := (.cons (.exp (.call id_check_sheet (.cons (.var 0) .nil)))
  (.cons (.par [2, 3] (.cons (.call id_turned (.cons (.call id_rows_of (.cons (.var 0) .nil)) .nil)) (.cons (.call id_turned (.cons (.call id_columns_of (.cons (.var 0) .nil)) .nil)) .nil)))
  (.cons (.asg (.nm 1) (.mt (.lst .nil)))
  (.cons l_single_mends_4
  (.cons (.frz 1)
  (.cons (.ret q_single_mends_5)
  .nil))))))
def r_single_mends : MP.Row := ⟨"single_mends", false, ["sheet", "found", "rows", "columns", "k", "gap", "j", "far", "rest", "change", "i", "one"], 1, 35, b_single_mends⟩
def b_entry_for : Ss := (.cons (.exp (.call id_check_sheet (.cons (.var 0) .nil)))
  (.cons (.exp (.call id_check_place (.cons (.var 0) (.cons (.var 1) .nil))))
  (.cons (.asg (.tp (.cons (.nm 4) (.cons (.nm 5) .nil))) (.var 1))
  (.cons (.asg (.nm 2) (.ite (.cmp .lt (.var 5) (.bin .sub (.prim .len (.cons (.ix (.var 0) (.int 0)) .nil)) (.int 1))) (.ix (.call id_rows_of (.cons (.var 0) .nil)) (.var 4)) (.neg (.ix (.call id_rows_of (.cons (.var 0) .nil)) (.var 4)))))
  (.cons (.asg (.nm 3) (.ite (.cmp .lt (.var 4) (.bin .sub (.prim .len (.cons (.var 0) .nil)) (.int 1))) (.ix (.call id_columns_of (.cons (.var 0) .nil)) (.var 5)) (.neg (.ix (.call id_columns_of (.cons (.var 0) .nil)) (.var 5)))))
  (.cons (.ret (.tup (.cons (.bin .sub (.ix (.ix (.var 0) (.var 4)) (.var 5)) (.var 2)) (.cons (.bin .sub (.ix (.ix (.var 0) (.var 4)) (.var 5)) (.var 3)) .nil))))
  .nil))))))
def r_entry_for : MP.Row := ⟨"entry_for", false, ["sheet", "place", "by_row", "by_column", "k", "j"], 2, 36, b_entry_for⟩
def q_completed_1 : E := .comp (.bin .add (.var 2) (.lst (.cons (.prim .sum (.cons (.var 2) .nil)) .nil))) (.nm 2) (.of (.var 0)) .none [2]
def q_completed_2 : E := .comp (.ix (.var 2) (.var 3)) (.nm 2) (.of (.var 1)) .none [2]
def q_completed_3 : E := .comp (.prim .sum (.cons q_completed_2 .nil)) (.nm 3) (.rng1 (.prim .len (.cons (.ix (.var 1) (.int 0)) .nil))) .none [3]
def b_completed : Ss := (.cons (.exp (.call id_check_table (.cons (.var 0) .nil)))
  (.cons (.asg (.nm 1) q_completed_1)
  (.cons (.ret (.bin .add (.var 1) (.lst (.cons q_completed_3 .nil))))
  .nil)))
def r_completed : MP.Row := ⟨"completed", false, ["table", "found", "row", "k"], 1, 38, b_completed⟩
def q_nodes_of_1 : E := .comp (.tup (.cons (.int 0) (.cons (.var 3) (.cons (.var 4) .nil)))) (.tp (.cons (.nm 3) (.cons (.nm 4) .nil))) (.enum (.var 1)) .none [3, 4]
def q_nodes_of_2 : E := .comp (.tup (.cons (.int 1) (.cons (.var 3) (.cons (.var 4) .nil)))) (.tp (.cons (.nm 3) (.cons (.nm 4) .nil))) (.enum (.var 2)) .none [3, 4]
def b_nodes_of : Ss := (.cons (.par [1, 2] (.cons (.call id_turned (.cons (.call id_rows_of (.cons (.var 0) .nil)) .nil)) (.cons (.call id_turned (.cons (.call id_columns_of (.cons (.var 0) .nil)) .nil)) .nil)))
  (.cons (.ret (.bin .add q_nodes_of_1 q_nodes_of_2))
  .nil))
def r_nodes_of : MP.Row := ⟨"nodes_of", false, ["sheet", "rows", "columns", "k", "gap"], 1, 40, b_nodes_of⟩
def q_is_balanced_1 : E := .comp (.var 2) (.tp (.cons (.nm 2) (.cons (.nm 3) (.cons (.nm 4) .nil)))) (.of (.var 0)) .none [2, 3, 4]
def q_is_balanced_2 : E := .comp (.ite (.cmp .eq (.var 2) (.int 0)) (.var 4) (.neg (.var 4))) (.tp (.cons (.nm 2) (.cons (.nm 3) (.cons (.nm 4) .nil)))) (.of (.var 0)) .none [2, 3, 4]
def b_is_balanced : Ss := (.cons (.asg (.nm 1) q_is_balanced_1)
  (.cons (.ite (.or (.cmp .notin (.int 0) (.var 1)) (.cmp .notin (.int 1) (.var 1))) (.cons (.ret (.bl false))
  .nil) .nil)
  (.cons (.ret (.cmp .eq (.prim .sum (.cons q_is_balanced_2 .nil)) (.int 0)))
  .nil)))
def r_is_balanced : MP.Row := ⟨"is_balanced", false, ["part", "sides", "side", "k", "gap"], 1, 41, b_is_balanced⟩
def q_parts_with_first_1 : E := .comp (.bin .add (.var 3) (.lst (.cons (.var 2) .nil))) (.nm 3) (.of (.var 1)) .none [3]
def l_parts_with_first_2 : MP.S := .for_ (.nm 2) (.of (.slc (.var 0) (.some (.int 1)) .none)) (.cons (.aug 1 .add q_parts_with_first_1)
  .nil)
def q_parts_with_first_3 : E := .comp (.var 3) (.nm 3) (.of (.var 1)) (.some (.call id_is_balanced (.cons (.var 3) .nil))) [3]
def b_parts_with_first : Ss := (.cons (.asg (.nm 1) (.mt (.lst (.cons (.lst (.cons (.ix (.var 0) (.int 0)) .nil)) .nil))))
  (.cons l_parts_with_first_2
  (.cons (.frz 1)
  (.cons (.ret q_parts_with_first_3)
  .nil))))
def r_parts_with_first : MP.Row := ⟨"parts_with_first", false, ["nodes", "found", "node", "part"], 1, 42, b_parts_with_first⟩
def q_best_parts_1 : E := .comp (.var 11) (.tp (.cons (.nm 9) (.cons (.nm 10) (.cons (.nm 11) .nil)))) (.of (.var 0)) .none [9, 10, 11]
def q_best_parts_2 : E := .comp (.var 12) (.nm 12) (.of (.slc (.var 0) (.some (.int 1)) .none)) (.some (.cmp .notin (.var 12) (.var 3))) [12]
def q_best_parts_3 : E := .comp (.bin .sub (.prim .len (.cons (.var 13) .nil)) (.int 1)) (.nm 13) (.of (.var 7)) .none [13]
def l_best_parts_4 : MP.S := .for_ (.nm 3) (.of (.bin .add (.var 2) (.call id_parts_with_first (.cons (.prim .list (.cons (.var 0) .nil)) .nil)))) (.cons (.asg (.nm 6) (.prim .tuple (.cons q_best_parts_2 .nil)))
  (.cons (.asg (.nm 7) (.call id_best_parts (.cons (.var 6) (.cons (.var 1) .nil))))
  (.cons (.ite (.cmp .isnot (.var 7) .non) (.cons (.asg (.nm 8) (.bin .add (.prim .max (.cons (.int 0) (.cons (.bin .sub (.prim .len (.cons (.var 3) .nil)) (.int 1)) .nil))) (.prim .sum (.cons q_best_parts_3 .nil))))
  (.cons (.ite (.or (.cmp .is (.var 5) .non) (.cmp .lt (.var 8) (.var 5))) (.cons (.par [4, 5] (.cons (.ite (.cmp .ne (.var 3) (.lst .nil)) (.bin .add (.lst (.cons (.var 3) .nil)) (.var 7)) (.var 7)) (.cons (.var 8) .nil)))
  .nil) .nil)
  .nil)) .nil)
  .nil)))
def b_best_parts : Ss := (.cons (.ite (.nt (.prim .any (.cons q_best_parts_1 .nil))) (.cons (.ret (.lst .nil))
  .nil) .nil)
  (.cons (.ite (.cmp .notin (.var 0) (.var 1)) (.cons (.asg (.tp (.cons (.nm 4) (.cons (.nm 5) .nil))) (.tup (.cons .non (.cons .non .nil))))
  (.cons (.asg (.nm 2) (.ite (.cmp .eq (.ix (.ix (.var 0) (.int 0)) (.int 2)) (.int 0)) (.lst (.cons (.lst .nil) .nil)) (.lst .nil)))
  (.cons l_best_parts_4
  (.cons (.aset (.var 1) (.var 0) (.var 4))
  .nil)))) .nil)
  (.cons (.ret (.ix (.var 1) (.var 0)))
  .nil)))
def r_best_parts : MP.Row := ⟨"best_parts", false, ["nodes", "known", "options", "part", "best", "least", "rest", "tail", "cost", "side", "k", "gap", "node", "one"], 2, 43, b_best_parts⟩
def q_fewest_1 : E := .comp (.bin .sub (.prim .len (.cons (.var 1) .nil)) (.int 1)) (.nm 1) (.of (.call id_best_parts (.cons (.prim .tuple (.cons (.call id_nodes_of (.cons (.var 0) .nil)) .nil)) (.cons .dct .nil)))) .none [1]
def b_fewest : Ss := (.cons (.exp (.call id_check_sheet (.cons (.var 0) .nil)))
  (.cons (.ret (.prim .sum (.cons q_fewest_1 .nil)))
  .nil))
def r_fewest : MP.Row := ⟨"fewest", false, ["sheet", "part"], 1, 44, b_fewest⟩
def q_gap_changes_1 : E := .comp (.bin .sub (.var 5) (.var 4)) (.tp (.cons (.nm 4) (.cons (.nm 5) .nil))) (.zip (.call id_rows_of (.cons (.var 0) .nil)) (.call id_rows_of (.cons (.var 2) .nil))) .none [4, 5]
def q_gap_changes_2 : E := .comp (.bin .sub (.var 5) (.var 4)) (.tp (.cons (.nm 4) (.cons (.nm 5) .nil))) (.zip (.call id_columns_of (.cons (.var 0) .nil)) (.call id_columns_of (.cons (.var 2) .nil))) .none [4, 5]
def b_gap_changes : Ss := (.cons (.exp (.call id_check_sheet (.cons (.var 0) .nil)))
  (.cons (.exp (.call id_check_changes (.cons (.var 0) (.cons (.var 1) .nil))))
  (.cons (.asg (.nm 2) (.call id_put (.cons (.var 0) (.cons (.var 1) .nil))))
  (.cons (.asg (.nm 3) q_gap_changes_1)
  (.cons (.ret (.tup (.cons (.var 3) (.cons q_gap_changes_2 .nil))))
  .nil)))))
def r_gap_changes : MP.Row := ⟨"gap_changes", false, ["sheet", "changes", "far", "rows", "a", "b"], 2, 46, b_gap_changes⟩
def b_check_kind : Ss := (.cons (.exp (.call id_check_sums (.cons (.var 0) .nil)))
  (.cons (.exp (.call id_check_sums (.cons (.var 1) .nil)))
  (.cons (.exp (.call id_check_most (.cons (.var 2) .nil)))
  .nil)))
def r_check_kind : MP.Row := ⟨"check_kind", false, ["rows", "columns", "most"], 3, 48, b_check_kind⟩
def q_chosen_1 : E := .comp (.bin .add (.var 3) (.lst (.cons (.var 2) .nil))) (.nm 3) (.of (.var 1)) .none [3]
def l_chosen_2 : MP.S := .for_ (.nm 2) (.rng1 (.var 0)) (.cons (.aug 1 .add q_chosen_1)
  .nil)
def q_chosen_3 : E := .comp (.tup (.cons (.prim .len (.cons (.var 3) .nil)) (.cons (.var 3) .nil))) (.nm 3) (.of (.var 1)) .none [3]
def q_chosen_4 : E := .comp (.var 3) (.tp (.cons (.nm 4) (.cons (.nm 3) .nil))) (.of (.prim .sorted (.cons q_chosen_3 .nil))) .none [4, 3]
def b_chosen : Ss := (.cons (.asg (.nm 1) (.mt (.lst (.cons (.lst .nil) .nil))))
  (.cons l_chosen_2
  (.cons (.frz 1)
  (.cons (.ret q_chosen_4)
  .nil))))
def r_chosen : MP.Row := ⟨"chosen", false, ["many", "found", "k", "one", "size"], 1, 49, b_chosen⟩
def q_is_cut_1 : E := .comp (.ix (.var 0) (.var 6)) (.nm 6) (.of (.var 3)) .none [6]
def q_is_cut_2 : E := .comp (.ix (.var 1) (.var 6)) (.nm 6) (.of (.var 4)) .none [6]
def b_is_cut : Ss := (.cons (.asg (.nm 5) (.prim .sum (.cons q_is_cut_1 .nil)))
  (.cons (.ret (.cmp .gt (.var 5) (.bin .add (.prim .sum (.cons q_is_cut_2 .nil)) (.bin .mul (.bin .mul (.var 2) (.prim .len (.cons (.var 3) .nil))) (.bin .sub (.prim .len (.cons (.var 1) .nil)) (.prim .len (.cons (.var 4) .nil)))))))
  .nil))
def r_is_cut : MP.Row := ⟨"is_cut", false, ["rows", "columns", "most", "some", "far", "asked", "k"], 5, 50, b_is_cut⟩
def l_cut_of_1 : MP.S := .for_ (.nm 4) (.of (.call id_chosen (.cons (.prim .len (.cons (.var 1) .nil)) .nil))) (.cons (.ite (.call id_is_cut (.cons (.var 0) (.cons (.var 1) (.cons (.var 2) (.cons (.var 3) (.cons (.var 4) .nil)))))) (.cons (.ret (.tup (.cons (.var 3) (.cons (.var 4) .nil))))
  .nil) .nil)
  .nil)
def l_cut_of_2 : MP.S := .for_ (.nm 3) (.of (.call id_chosen (.cons (.prim .len (.cons (.var 0) .nil)) .nil))) (.cons l_cut_of_1
  .nil)
def b_cut_of : Ss := (.cons l_cut_of_2
  (.cons (.ret .non)
  .nil))
def r_cut_of : MP.Row := ⟨"cut_of", false, ["rows", "columns", "most", "some", "far"], 3, 51, b_cut_of⟩
def b_can_be : Ss := (.cons (.exp (.call id_check_kind (.cons (.var 0) (.cons (.var 1) (.cons (.var 2) .nil)))))
  (.cons (.ret (.and (.cmp .eq (.prim .sum (.cons (.var 0) .nil)) (.prim .sum (.cons (.var 1) .nil))) (.cmp .is (.call id_cut_of (.cons (.var 0) (.cons (.var 1) (.cons (.var 2) .nil)))) .non)))
  .nil))
def r_can_be : MP.Row := ⟨"can_be", false, ["rows", "columns", "most"], 3, 52, b_can_be⟩
def q_rows_with_1 : E := .comp (.bin .add (.tup (.cons (.var 3) .nil)) (.var 4)) (.nm 4) (.of (.call id_rows_with (.cons (.bin .sub (.var 0) (.var 3)) (.cons (.slc (.var 1) (.some (.int 1)) .none) .nil)))) .none [4]
def l_rows_with_2 : MP.S := .for_ (.nm 3) (.rng1 (.bin .add (.prim .min (.cons (.var 0) (.cons (.ix (.var 1) (.int 0)) .nil))) (.int 1))) (.cons (.ite (.cmp .le (.bin .sub (.var 0) (.var 3)) (.prim .sum (.cons (.slc (.var 1) (.some (.int 1)) .none) .nil))) (.cons (.aug 2 .add q_rows_with_1)
  .nil) .nil)
  .nil)
def b_rows_with : Ss := (.cons (.ite (.cmp .eq (.var 1) (.tup .nil)) (.cons (.ret (.ite (.cmp .eq (.var 0) (.int 0)) (.lst (.cons (.tup .nil) .nil)) (.lst .nil)))
  .nil) .nil)
  (.cons (.asg (.nm 2) (.mt (.lst .nil)))
  (.cons l_rows_with_2
  (.cons (.frz 2)
  (.cons (.ret (.var 2))
  .nil)))))
def r_rows_with : MP.Row := ⟨"rows_with", false, ["total", "parts", "found", "first", "rest"], 2, 53, b_rows_with⟩
def q_ways_from_1 : E := .comp (.prim .min (.cons (.var 2) (.cons (.var 6) .nil))) (.nm 6) (.of (.var 1)) .none [6]
def q_ways_from_2 : E := .comp (.bin .sub (.var 7) (.var 8)) (.tp (.cons (.nm 7) (.cons (.nm 8) .nil))) (.zip (.var 1) (.var 5)) .none [7, 8]
def l_ways_from_3 : MP.S := .for_ (.nm 5) (.of (.call id_rows_with (.cons (.ix (.var 0) (.int 0)) (.cons (.prim .tuple (.cons q_ways_from_1 .nil)) .nil)))) (.cons (.aug 4 .add (.call id_ways_from (.cons (.slc (.var 0) (.some (.int 1)) .none) (.cons (.prim .tuple (.cons q_ways_from_2 .nil)) (.cons (.var 2) (.cons (.var 3) .nil))))))
  .nil)
def b_ways_from : Ss := (.cons (.ite (.cmp .eq (.var 0) (.tup .nil)) (.cons (.ret (.ite (.nt (.prim .any (.cons (.var 1) .nil))) (.int 1) (.int 0)))
  .nil) .nil)
  (.cons (.ite (.cmp .notin (.tup (.cons (.var 0) (.cons (.var 1) .nil))) (.var 3)) (.cons (.asg (.nm 4) (.int 0))
  (.cons l_ways_from_3
  (.cons (.aset (.var 3) (.tup (.cons (.var 0) (.cons (.var 1) .nil))) (.var 4))
  .nil))) .nil)
  (.cons (.ret (.ix (.var 3) (.tup (.cons (.var 0) (.cons (.var 1) .nil)))))
  .nil)))
def r_ways_from : MP.Row := ⟨"ways_from", false, ["rows", "left", "most", "known", "found", "row", "one", "a", "b"], 4, 54, b_ways_from⟩
def b_count_tables : Ss := (.cons (.exp (.call id_check_kind (.cons (.var 0) (.cons (.var 1) (.cons (.var 2) .nil)))))
  (.cons (.ret (.call id_ways_from (.cons (.prim .tuple (.cons (.var 0) .nil)) (.cons (.prim .tuple (.cons (.var 1) .nil)) (.cons (.var 2) (.cons .dct .nil))))))
  .nil))
def r_count_tables : MP.Row := ⟨"count_tables", false, ["rows", "columns", "most"], 3, 55, b_count_tables⟩
def b_check_cell : Ss := (.cons (.ite (.or (.nt (.prim .istuple (.cons (.var 2) .nil))) (.cmp .ne (.prim .len (.cons (.var 2) .nil)) (.int 2))) (.cons (.raise 4)
  .nil) .nil)
  (.cons (.ite (.or (.nt (.call id_is_int (.cons (.ix (.var 2) (.int 0)) (.cons (.int 0) (.cons (.bin .sub (.prim .len (.cons (.var 0) .nil)) (.int 1)) .nil))))) (.nt (.call id_is_int (.cons (.ix (.var 2) (.int 1)) (.cons (.int 0) (.cons (.bin .sub (.prim .len (.cons (.var 1) .nil)) (.int 1)) .nil)))))) (.cons (.raise 4)
  .nil) .nil)
  .nil))
def r_check_cell : MP.Row := ⟨"check_cell", false, ["rows", "columns", "place"], 3, 57, b_check_cell⟩
def b_exists : Ss := (.cons (.ret (.and (.cmp .eq (.prim .sum (.cons (.var 0) .nil)) (.prim .sum (.cons (.var 1) .nil))) (.cmp .is (.call id_cut_of (.cons (.var 0) (.cons (.var 1) (.cons (.var 2) .nil)))) .non)))
  .nil)
def r_exists : MP.Row := ⟨"exists", false, ["rows", "columns", "most"], 3, 58, b_exists⟩
def q_counted_1 : E := .comp (.var 16) (.nm 16) (.rng1 (.prim .len (.cons (.var 0) .nil))) (.some (.cmp .ne (.var 16) (.var 13))) [16]
def q_counted_2 : E := .comp (.var 16) (.nm 16) (.rng1 (.prim .len (.cons (.var 1) .nil))) (.some (.cmp .ne (.var 16) (.var 14))) [16]
def q_counted_3 : E := .comp (.ix (.var 0) (.var 16)) (.nm 16) (.of (.var 5)) .none [16]
def q_counted_4 : E := .comp (.ix (.var 1) (.var 16)) (.nm 16) (.of (.var 6)) .none [16]
def q_counted_5 : E := .comp (.prim .min (.cons (.var 2) (.cons (.var 17) .nil))) (.nm 17) (.of (.slc (.var 8) (.some (.int 1)) .none)) .none [17]
def q_counted_6 : E := .comp (.bin .sub (.var 18) (.var 19)) (.tp (.cons (.nm 18) (.cons (.nm 19) .nil))) (.zip (.slc (.var 8) (.some (.int 1)) .none) (.var 12)) .none [18, 19]
def l_counted_7 : MP.S := .for_ (.nm 12) (.of (.call id_fills (.cons (.var 9) (.cons q_counted_5 .nil)))) (.cons (.asg (.nm 15) (.bin .add (.lst (.cons (.bin .sub (.ix (.var 8) (.int 0)) (.var 4)) .nil)) q_counted_6))
  (.cons (.aug 10 .add (.call id_ways_from (.cons (.var 11) (.cons (.prim .tuple (.cons (.var 15) .nil)) (.cons (.var 2) (.cons .dct .nil))))))
  .nil))
def b_counted : Ss := (.cons (.asg (.tp (.cons (.nm 13) (.cons (.nm 14) .nil))) (.var 3))
  (.cons (.ite (.cmp .gt (.var 4) (.prim .min (.cons (.var 2) (.cons (.ix (.var 0) (.var 13)) (.cons (.ix (.var 1) (.var 14)) .nil))))) (.cons (.ret (.int 0))
  .nil) .nil)
  (.cons (.asg (.nm 5) (.bin .add (.lst (.cons (.var 13) .nil)) q_counted_1))
  (.cons (.asg (.nm 6) (.bin .add (.lst (.cons (.var 14) .nil)) q_counted_2))
  (.cons (.asg (.nm 7) q_counted_3)
  (.cons (.asg (.nm 8) q_counted_4)
  (.cons (.asg (.nm 9) (.bin .sub (.ix (.var 7) (.int 0)) (.var 4)))
  (.cons (.asg (.nm 10) (.int 0))
  (.cons (.asg (.nm 11) (.prim .tuple (.cons (.slc (.var 7) (.some (.int 1)) .none) .nil)))
  (.cons l_counted_7
  (.cons (.ret (.var 10))
  .nil)))))))))))
def r_counted : MP.Row := ⟨"counted", false, ["rows", "columns", "most", "place", "number", "order", "far", "sums", "left", "first", "found", "rest", "row", "k", "j", "after", "i", "one", "a", "b"], 5, 59, b_counted⟩
def q_fills_1 : E := .comp (.bin .add (.lst (.cons (.var 3) .nil)) (.var 4)) (.nm 4) (.of (.call id_fills (.cons (.bin .sub (.var 0) (.var 3)) (.cons (.slc (.var 1) (.some (.int 1)) .none) .nil)))) .none [4]
def l_fills_2 : MP.S := .for_ (.nm 3) (.rng1 (.bin .add (.prim .min (.cons (.var 0) (.cons (.ix (.var 1) (.int 0)) .nil))) (.int 1))) (.cons (.aug 2 .add q_fills_1)
  .nil)
def b_fills : Ss := (.cons (.ite (.cmp .eq (.var 1) (.lst .nil)) (.cons (.ret (.ite (.cmp .eq (.var 0) (.int 0)) (.lst (.cons (.lst .nil) .nil)) (.lst .nil)))
  .nil) .nil)
  (.cons (.asg (.nm 2) (.mt (.lst .nil)))
  (.cons l_fills_2
  (.cons (.frz 2)
  (.cons (.ret (.var 2))
  .nil)))))
def r_fills : MP.Row := ⟨"fills", false, ["total", "tops", "found", "first", "rest"], 2, 60, b_fills⟩
def q_cell_range_1 : E := .comp (.var 5) (.nm 5) (.rng1 (.bin .add (.var 2) (.int 1))) (.some (.cmp .gt (.call id_counted (.cons (.var 0) (.cons (.var 1) (.cons (.var 2) (.cons (.var 3) (.cons (.var 5) .nil)))))) (.int 0))) [5]
def b_cell_range : Ss := (.cons (.exp (.call id_check_kind (.cons (.var 0) (.cons (.var 1) (.cons (.var 2) .nil)))))
  (.cons (.exp (.call id_check_cell (.cons (.var 0) (.cons (.var 1) (.cons (.var 3) .nil)))))
  (.cons (.asg (.nm 4) q_cell_range_1)
  (.cons (.ite (.cmp .eq (.var 4) (.lst .nil)) (.cons (.raise 6)
  .nil) .nil)
  (.cons (.ret (.tup (.cons (.ix (.var 4) (.int 0)) (.cons (.ix (.var 4) (.neg (.int 1))) .nil))))
  .nil)))))
def r_cell_range : MP.Row := ⟨"cell_range", false, ["rows", "columns", "most", "place", "good", "number"], 4, 61, b_cell_range⟩
def q_sure_cells_1 : E := .comp (.var 7) (.nm 7) (.rng1 (.bin .add (.var 2) (.int 1))) (.some (.cmp .gt (.call id_counted (.cons (.var 0) (.cons (.var 1) (.cons (.var 2) (.cons (.tup (.cons (.var 4) (.cons (.var 5) .nil))) (.cons (.var 7) .nil)))))) (.int 0))) [7]
def l_sure_cells_2 : MP.S := .for_ (.nm 5) (.rng1 (.prim .len (.cons (.var 1) .nil))) (.cons (.asg (.nm 6) q_sure_cells_1)
  (.cons (.ite (.cmp .eq (.prim .len (.cons (.var 6) .nil)) (.int 1)) (.cons (.exp (.meth .append (.var 3) (.cons (.tup (.cons (.tup (.cons (.var 4) (.cons (.var 5) .nil))) (.cons (.ix (.var 6) (.int 0)) .nil))) .nil)))
  .nil) .nil)
  .nil))
def l_sure_cells_3 : MP.S := .for_ (.nm 4) (.rng1 (.prim .len (.cons (.var 0) .nil))) (.cons l_sure_cells_2
  .nil)
def b_sure_cells : Ss := (.cons (.exp (.call id_check_kind (.cons (.var 0) (.cons (.var 1) (.cons (.var 2) .nil)))))
  (.cons (.ite (.nt (.call id_exists (.cons (.var 0) (.cons (.var 1) (.cons (.var 2) .nil))))) (.cons (.raise 6)
  .nil) .nil)
  (.cons (.asg (.nm 3) (.mt (.lst .nil)))
  (.cons l_sure_cells_3
  (.cons (.frz 3)
  (.cons (.ret (.var 3))
  .nil))))))
def r_sure_cells : MP.Row := ⟨"sure_cells", false, ["rows", "columns", "most", "found", "k", "j", "good", "number"], 3, 62, b_sure_cells⟩
def q_transposed_1 : E := .comp (.ix (.var 2) (.var 1)) (.nm 2) (.of (.var 0)) .none [2]
def q_transposed_2 : E := .comp q_transposed_1 (.nm 1) (.rng1 (.prim .len (.cons (.ix (.var 0) (.int 0)) .nil))) .none [1]
def b_transposed : Ss := (.cons (.exp (.call id_check_sheet (.cons (.var 0) .nil)))
  (.cons (.ret q_transposed_2)
  .nil))
def r_transposed : MP.Row := ⟨"transposed", false, ["sheet", "k", "row"], 1, 64, b_transposed⟩
def q_format_table_1 : E := .comp (.prim .str (.cons (.var 2) .nil)) (.nm 2) (.of (.var 1)) .none [2]
def q_format_table_2 : E := .comp (.meth .join (.str "") (.cons q_format_table_1 .nil)) (.nm 1) (.of (.var 0)) .none [1]
def b_format_table : Ss := (.cons (.exp (.call id_check_table (.cons (.var 0) .nil)))
  (.cons (.ret (.meth .join (.str "/") (.cons q_format_table_2 .nil)))
  .nil))
def r_format_table : MP.Row := ⟨"format_table", false, ["table", "row", "cell"], 1, 68, b_format_table⟩
def b__law_draw : Ss := (.cons (.asg (.nm 2) (.ix (.var 0) (.int 0)))
  (.cons (.aset (.var 0) (.int 1) (.bin .add (.ix (.var 0) (.int 1)) (.int 1)))
  (.cons (.asg (.nm 3) (.bin .mod (.ix (.var 0) (.int 1)) (.prim .len (.cons (.var 2) .nil))))
  (.cons (.asg (.nm 4) (.ix (.var 2) (.var 3)))
  (.cons (.ite (.cmp .ge (.var 4) (.int 1000000000000000000)) (.cons (.aset (.var 2) (.var 3) (.bin .fdiv (.var 4) (.var 1)))
  (.cons (.ret (.bin .mod (.var 4) (.var 1)))
  .nil)) .nil)
  (.cons (.asg (.nm 5) (.bin .mod (.bin .add (.var 4) (.bin .mul (.int 104729) (.ix (.var 0) (.int 1)))) (.int 4294967291)))
  (.cons (.asg (.nm 5) (.bin .mod (.bin .pow (.var 5) (.int 5)) (.int 4294967279)))
  (.cons (.ret (.bin .mod (.bin .fdiv (.bin .mod (.bin .add (.bin .mul (.bin .fdiv (.var 5) (.int 64)) (.int 69621)) (.var 5)) (.int 4294967231)) (.int 8)) (.var 1)))
  .nil))))))))
def r__law_draw : MP.Row := ⟨"_law_draw", false, ["draws", "limit", "numbers", "at", "cell", "mixed"], 2, 71, b__law_draw⟩
def b__law_first : Ss := (.cons (.ite (.or (.cmp .ne (.call id_completed (.cons (.lst (.cons (.lst (.cons (.int 1) (.cons (.int 2) .nil))) .nil)) .nil)) (.lst (.cons (.lst (.cons (.int 1) (.cons (.int 2) (.cons (.int 3) .nil)))) (.cons (.lst (.cons (.int 1) (.cons (.int 2) (.cons (.int 3) .nil)))) .nil)))) (.or (.cmp .ne (.call id_row_gaps (.cons (.var 0) .nil)) (.lst (.cons (.int 0) (.cons (.int 1) (.cons (.int 0) .nil))))) (.cmp .ne (.call id_column_gaps (.cons (.var 0) .nil)) (.lst (.cons (.int 0) (.cons (.int 0) (.cons (.bin .sub (.int 0) (.int 1)) .nil))))))) (.cons (.ret (.bl false))
  .nil) .nil)
  (.cons (.ite (.or (.cmp .ne (.call id_entry_for (.cons (.var 0) (.cons (.tup (.cons (.int 1) (.cons (.int 2) .nil))) .nil))) (.tup (.cons (.int 9) (.cons (.int 9) .nil)))) (.or (.cmp .ne (.call id_single_mends (.cons (.var 0) .nil)) (.lst (.cons (.tup (.cons (.tup (.cons (.int 1) (.cons (.int 2) .nil))) (.cons (.int 9) .nil))) .nil))) (.cmp .ne (.call id_fewest (.cons (.var 0) .nil)) (.int 1)))) (.cons (.ret (.bl false))
  .nil) .nil)
  (.cons (.ret (.cmp .eq (.call id_gap_changes (.cons (.var 0) (.cons (.lst (.cons (.tup (.cons (.tup (.cons (.int 0) (.cons (.int 0) .nil))) (.cons (.int 2) .nil))) .nil)) .nil))) (.tup (.cons (.lst (.cons (.int 1) (.cons (.int 0) (.cons (.int 0) .nil)))) (.cons (.lst (.cons (.int 1) (.cons (.int 0) (.cons (.int 0) .nil)))) .nil)))))
  .nil)))
def r__law_first : MP.Row := ⟨"_law_first", false, ["sheet"], 1, 72, b__law_first⟩
def b__law_second : Ss := (.cons (.ite (.or (.cmp .isnot (.call id_can_be (.cons (.lst (.cons (.int 3) .nil)) (.cons (.lst (.cons (.int 1) (.cons (.int 2) .nil))) (.cons (.int 1) .nil)))) (.bl false)) (.or (.cmp .ne (.call id_count_tables (.cons (.lst (.cons (.int 1) (.cons (.int 1) .nil))) (.cons (.lst (.cons (.int 1) (.cons (.int 1) .nil))) (.cons (.int 9) .nil)))) (.int 2)) (.cmp .ne (.call id_cell_range (.cons (.lst (.cons (.int 1) (.cons (.int 1) .nil))) (.cons (.lst (.cons (.int 1) (.cons (.int 1) .nil))) (.cons (.int 9) (.cons (.tup (.cons (.int 0) (.cons (.int 0) .nil))) .nil))))) (.tup (.cons (.int 0) (.cons (.int 1) .nil)))))) (.cons (.ret (.bl false))
  .nil) .nil)
  (.cons (.ret (.and (.cmp .eq (.call id_transposed (.cons (.lst (.cons (.lst (.cons (.int 1) (.cons (.int 2) .nil))) (.cons (.lst (.cons (.int 3) (.cons (.int 4) .nil))) .nil))) .nil)) (.lst (.cons (.lst (.cons (.int 1) (.cons (.int 3) .nil))) (.cons (.lst (.cons (.int 2) (.cons (.int 4) .nil))) .nil)))) (.cmp .eq (.call id_format_table (.cons (.lst (.cons (.lst (.cons (.int 1) (.cons (.int 2) .nil))) (.cons (.lst (.cons (.int 3) (.cons (.int 4) .nil))) .nil))) .nil)) (.str "12/34"))))
  .nil))
def r__law_second : MP.Row := ⟨"_law_second", false, [], 0, 73, b__law_second⟩
def q_Ledger___init___1 : E := .comp (.mt (.prim .list (.cons (.var 2) .nil))) (.nm 2) (.of (.var 1)) .none [2]
def b_Ledger___init__ : Ss := (.cons (.exp (.call id_check_sheet (.cons (.var 1) .nil)))
  (.cons (.aattr (.var 0) 0 (.mt q_Ledger___init___1))
  (.cons (.aattr (.var 0) 1 (.mt (.lst .nil)))
  .nil)))
def r_Ledger___init__ : MP.Row := ⟨"__init__", true, ["self", "sheet", "row"], 2, 1000, b_Ledger___init__⟩
def b_Ledger_enter : Ss := (.cons (.exp (.call id_check_place (.cons (.attr (.var 0) 0) (.cons (.var 1) .nil))))
  (.cons (.ite (.nt (.call id_is_int (.cons (.var 2) (.cons (.neg (.int 999)) (.cons (.int 999) .nil))))) (.cons (.raise 4)
  .nil) .nil)
  (.cons (.exp (.meth .append (.attr (.var 0) 1) (.cons (.tup (.cons (.var 1) (.cons (.ix (.ix (.attr (.var 0) 0) (.ix (.var 1) (.int 0))) (.ix (.var 1) (.int 1))) .nil))) .nil)))
  (.cons (.aset (.ix (.attr (.var 0) 0) (.ix (.var 1) (.int 0))) (.ix (.var 1) (.int 1)) (.var 2))
  (.cons (.ret (.call id_right (.cons (.attr (.var 0) 0) .nil)))
  .nil)))))
def r_Ledger_enter : MP.Row := ⟨"enter", true, ["self", "place", "entry"], 3, 1001, b_Ledger_enter⟩
def q_Ledger_sheet_1 : E := .comp (.prim .list (.cons (.var 1) .nil)) (.nm 1) (.of (.attr (.var 0) 0)) .none [1]
def b_Ledger_sheet : Ss := (.cons (.ret q_Ledger_sheet_1)
  .nil)
def r_Ledger_sheet : MP.Row := ⟨"sheet", true, ["self", "row"], 1, 1002, b_Ledger_sheet⟩
def b_Ledger_gaps : Ss := (.cons (.ret (.tup (.cons (.call id_rows_of (.cons (.attr (.var 0) 0) .nil)) (.cons (.call id_columns_of (.cons (.attr (.var 0) 0) .nil)) .nil))))
  .nil)
def r_Ledger_gaps : MP.Row := ⟨"gaps", true, ["self"], 1, 1003, b_Ledger_gaps⟩
def b_Ledger_undo : Ss := (.cons (.exp (.call id__wall (.cons (.int 0) .nil)))
  .nil)
def r_Ledger_undo : MP.Row := ⟨"undo", true, ["self"], 1, 1004, b_Ledger_undo⟩
def b_Ledger___len__ : Ss := (.cons (.ret (.prim .len (.cons (.attr (.var 0) 1) .nil)))
  .nil)
def r_Ledger___len__ : MP.Row := ⟨"__len__", true, ["self"], 1, 1005, b_Ledger___len__⟩
def b__law_start : Ss := .nil
def r__law_start : MP.Row := ⟨"_law_start", false, ["script"], 1, 70, b__law_start⟩
def b_law : Ss := (.cons (.asg (.nm 2) (.lst (.cons (.lst (.cons (.int 1) (.cons (.int 2) (.cons (.int 3) .nil)))) (.cons (.lst (.cons (.int 4) (.cons (.int 5) (.cons (.int 8) .nil)))) (.cons (.lst (.cons (.int 5) (.cons (.int 7) (.cons (.int 12) .nil)))) .nil)))))
  (.cons (.ite (.or (.nt (.call id__law_first (.cons (.var 2) .nil))) (.nt (.call id__law_second .nil))) (.cons (.ret (.bl false))
  .nil) .nil)
  (.cons (.asg (.nm 3) (.mk 0 id_Ledger___init__ (.cons (.var 2) .nil)))
  (.cons (.ite (.cmp .isnot (.umeth id_Ledger_enter (.var 3) (.cons (.tup (.cons (.int 1) (.cons (.int 2) .nil))) (.cons (.int 9) .nil))) (.bl true)) (.cons (.ret (.bl false))
  .nil) .nil)
  (.cons (.asg (.nm 4) (.call id__law_draw (.cons (.var 1) (.cons (.int 10) .nil))))
  (.cons (.ret (.and (.cmp .eq (.call id_completed (.cons (.lst (.cons (.lst (.cons (.var 4) .nil)) .nil)) .nil)) (.bin .mul (.lst (.cons (.lst (.cons (.var 4) (.cons (.var 4) .nil))) .nil)) (.int 2))) (.and (.cmp .eq (.call id_sure_cells (.cons (.lst (.cons (.var 4) .nil)) (.cons (.lst (.cons (.var 4) .nil)) (.cons (.int 9) .nil)))) (.lst (.cons (.tup (.cons (.tup (.cons (.int 0) (.cons (.int 0) .nil))) (.cons (.var 4) .nil))) .nil))) (.cmp .eq (.call id_common_gap (.cons (.lst (.cons (.lst (.cons (.var 4) (.cons (.int 0) .nil))) (.cons (.lst (.cons (.int 0) (.cons (.int 0) .nil))) .nil))) .nil)) (.var 4)))))
  .nil))))))
def r_law : MP.Row := ⟨"law", false, ["script", "draws", "sheet", "held", "cell"], 1, 74, b_law⟩
def rows : List MP.Row := [r__wall, r_is_int, r_is_block, r_is_sheet, r_check_sheet, r_is_table, r_check_table, r_check_place, r_check_sums, r_check_most, r_row_gap, r_rows_of, r_columns_of, r_row_gaps, r_column_gaps, r_right, r_turned, r_common_gap, r_sign, r_check_changes, r_is_place, r_put, r_moved_by, r_within, r_single_mends, r_entry_for, r_completed, r_nodes_of, r_is_balanced, r_parts_with_first, r_best_parts, r_fewest, r_gap_changes, r_check_kind, r_chosen, r_is_cut, r_cut_of, r_can_be, r_rows_with, r_ways_from, r_count_tables, r_check_cell, r_exists, r_counted, r_fills, r_cell_range, r_sure_cells, r_transposed, r_format_table, r__law_draw, r__law_first, r__law_second, r_Ledger___init__, r_Ledger_enter, r_Ledger_sheet, r_Ledger_gaps, r_Ledger_undo, r_Ledger___len__]
def L : Lw := ⟨top, rows, [("MOST_ENTRY", 999)], [], ["SheetError", "BadSheet", "BadTable", "BadSums", "BadNumber", "BadChanges", "NotFound"], false, r__law_start, r_law⟩
abbrev Cl (d : Nat) : Call := callF L.G L.T d
theorem c__wall (d : Nat) (a0 : D) (S : Store) : Cl (d + 1) id__wall [a0] S = fin (exs L.G (Cl d) b__wall [some a0] S) := rfl
theorem c_is_int (d : Nat) (a0 a1 a2 : D) (S : Store) : Cl (d + 1) id_is_int [a0, a1, a2] S = fin (exs L.G (Cl d) b_is_int [some a0, some a1, some a2] S) := rfl
theorem c_is_block (d : Nat) (a0 a1 a2 a3 a4 : D) (S : Store) : Cl (d + 1) id_is_block [a0, a1, a2, a3, a4] S = fin (exs L.G (Cl d) b_is_block [some a0, some a1, some a2, some a3, some a4, none, none] S) := rfl
theorem c_is_sheet (d : Nat) (a0 : D) (S : Store) : Cl (d + 1) id_is_sheet [a0] S = fin (exs L.G (Cl d) b_is_sheet [some a0] S) := rfl
theorem c_check_sheet (d : Nat) (a0 : D) (S : Store) : Cl (d + 1) id_check_sheet [a0] S = fin (exs L.G (Cl d) b_check_sheet [some a0] S) := rfl
theorem c_is_table (d : Nat) (a0 : D) (S : Store) : Cl (d + 1) id_is_table [a0] S = fin (exs L.G (Cl d) b_is_table [some a0] S) := rfl
theorem c_check_table (d : Nat) (a0 : D) (S : Store) : Cl (d + 1) id_check_table [a0] S = fin (exs L.G (Cl d) b_check_table [some a0] S) := rfl
theorem c_check_place (d : Nat) (a0 a1 : D) (S : Store) : Cl (d + 1) id_check_place [a0, a1] S = fin (exs L.G (Cl d) b_check_place [some a0, some a1] S) := rfl
theorem c_check_sums (d : Nat) (a0 : D) (S : Store) : Cl (d + 1) id_check_sums [a0] S = fin (exs L.G (Cl d) b_check_sums [some a0, none] S) := rfl
theorem c_check_most (d : Nat) (a0 : D) (S : Store) : Cl (d + 1) id_check_most [a0] S = fin (exs L.G (Cl d) b_check_most [some a0] S) := rfl
theorem c_row_gap (d : Nat) (a0 : D) (S : Store) : Cl (d + 1) id_row_gap [a0] S = fin (exs L.G (Cl d) b_row_gap [some a0] S) := rfl
theorem c_rows_of (d : Nat) (a0 : D) (S : Store) : Cl (d + 1) id_rows_of [a0] S = fin (exs L.G (Cl d) b_rows_of [some a0, none] S) := rfl
theorem c_columns_of (d : Nat) (a0 : D) (S : Store) : Cl (d + 1) id_columns_of [a0] S = fin (exs L.G (Cl d) b_columns_of [some a0, none, none] S) := rfl
theorem c_row_gaps (d : Nat) (a0 : D) (S : Store) : Cl (d + 1) id_row_gaps [a0] S = fin (exs L.G (Cl d) b_row_gaps [some a0] S) := rfl
theorem c_column_gaps (d : Nat) (a0 : D) (S : Store) : Cl (d + 1) id_column_gaps [a0] S = fin (exs L.G (Cl d) b_column_gaps [some a0] S) := rfl
theorem c_right (d : Nat) (a0 : D) (S : Store) : Cl (d + 1) id_right [a0] S = fin (exs L.G (Cl d) b_right [some a0] S) := rfl
theorem c_turned (d : Nat) (a0 : D) (S : Store) : Cl (d + 1) id_turned [a0] S = fin (exs L.G (Cl d) b_turned [some a0] S) := rfl
theorem c_common_gap (d : Nat) (a0 : D) (S : Store) : Cl (d + 1) id_common_gap [a0] S = fin (exs L.G (Cl d) b_common_gap [some a0] S) := rfl
theorem c_sign (d : Nat) (a0 a1 : D) (S : Store) : Cl (d + 1) id_sign [a0, a1] S = fin (exs L.G (Cl d) b_sign [some a0, some a1] S) := rfl
theorem c_check_changes (d : Nat) (a0 a1 : D) (S : Store) : Cl (d + 1) id_check_changes [a0, a1] S = fin (exs L.G (Cl d) b_check_changes [some a0, some a1, none, none, none] S) := rfl
theorem c_is_place (d : Nat) (a0 a1 : D) (S : Store) : Cl (d + 1) id_is_place [a0, a1] S = fin (exs L.G (Cl d) b_is_place [some a0, some a1] S) := rfl
theorem c_put (d : Nat) (a0 a1 : D) (S : Store) : Cl (d + 1) id_put [a0, a1] S = fin (exs L.G (Cl d) b_put [some a0, some a1, none, none, none, none, none] S) := rfl
theorem c_moved_by (d : Nat) (a0 a1 : D) (S : Store) : Cl (d + 1) id_moved_by [a0, a1] S = fin (exs L.G (Cl d) b_moved_by [some a0, some a1, none, none, none] S) := rfl
theorem c_within (d : Nat) (a0 : D) (S : Store) : Cl (d + 1) id_within [a0] S = fin (exs L.G (Cl d) b_within [some a0, none, none] S) := rfl
theorem c_single_mends (d : Nat) (a0 : D) (S : Store) : Cl (d + 1) id_single_mends [a0] S = fin (exs L.G (Cl d) b_single_mends [some a0, none, none, none, none, none, none, none, none, none, none, none] S) := rfl
theorem c_entry_for (d : Nat) (a0 a1 : D) (S : Store) : Cl (d + 1) id_entry_for [a0, a1] S = fin (exs L.G (Cl d) b_entry_for [some a0, some a1, none, none, none, none] S) := rfl
theorem c_completed (d : Nat) (a0 : D) (S : Store) : Cl (d + 1) id_completed [a0] S = fin (exs L.G (Cl d) b_completed [some a0, none, none, none] S) := rfl
theorem c_nodes_of (d : Nat) (a0 : D) (S : Store) : Cl (d + 1) id_nodes_of [a0] S = fin (exs L.G (Cl d) b_nodes_of [some a0, none, none, none, none] S) := rfl
theorem c_is_balanced (d : Nat) (a0 : D) (S : Store) : Cl (d + 1) id_is_balanced [a0] S = fin (exs L.G (Cl d) b_is_balanced [some a0, none, none, none, none] S) := rfl
theorem c_parts_with_first (d : Nat) (a0 : D) (S : Store) : Cl (d + 1) id_parts_with_first [a0] S = fin (exs L.G (Cl d) b_parts_with_first [some a0, none, none, none] S) := rfl
theorem c_best_parts (d : Nat) (a0 a1 : D) (S : Store) : Cl (d + 1) id_best_parts [a0, a1] S = fin (exs L.G (Cl d) b_best_parts [some a0, some a1, none, none, none, none, none, none, none, none, none, none, none, none] S) := rfl
theorem c_fewest (d : Nat) (a0 : D) (S : Store) : Cl (d + 1) id_fewest [a0] S = fin (exs L.G (Cl d) b_fewest [some a0, none] S) := rfl
theorem c_gap_changes (d : Nat) (a0 a1 : D) (S : Store) : Cl (d + 1) id_gap_changes [a0, a1] S = fin (exs L.G (Cl d) b_gap_changes [some a0, some a1, none, none, none, none] S) := rfl
theorem c_check_kind (d : Nat) (a0 a1 a2 : D) (S : Store) : Cl (d + 1) id_check_kind [a0, a1, a2] S = fin (exs L.G (Cl d) b_check_kind [some a0, some a1, some a2] S) := rfl
theorem c_chosen (d : Nat) (a0 : D) (S : Store) : Cl (d + 1) id_chosen [a0] S = fin (exs L.G (Cl d) b_chosen [some a0, none, none, none, none] S) := rfl
theorem c_is_cut (d : Nat) (a0 a1 a2 a3 a4 : D) (S : Store) : Cl (d + 1) id_is_cut [a0, a1, a2, a3, a4] S = fin (exs L.G (Cl d) b_is_cut [some a0, some a1, some a2, some a3, some a4, none, none] S) := rfl
theorem c_cut_of (d : Nat) (a0 a1 a2 : D) (S : Store) : Cl (d + 1) id_cut_of [a0, a1, a2] S = fin (exs L.G (Cl d) b_cut_of [some a0, some a1, some a2, none, none] S) := rfl
theorem c_can_be (d : Nat) (a0 a1 a2 : D) (S : Store) : Cl (d + 1) id_can_be [a0, a1, a2] S = fin (exs L.G (Cl d) b_can_be [some a0, some a1, some a2] S) := rfl
theorem c_rows_with (d : Nat) (a0 a1 : D) (S : Store) : Cl (d + 1) id_rows_with [a0, a1] S = fin (exs L.G (Cl d) b_rows_with [some a0, some a1, none, none, none] S) := rfl
theorem c_ways_from (d : Nat) (a0 a1 a2 a3 : D) (S : Store) : Cl (d + 1) id_ways_from [a0, a1, a2, a3] S = fin (exs L.G (Cl d) b_ways_from [some a0, some a1, some a2, some a3, none, none, none, none, none] S) := rfl
theorem c_count_tables (d : Nat) (a0 a1 a2 : D) (S : Store) : Cl (d + 1) id_count_tables [a0, a1, a2] S = fin (exs L.G (Cl d) b_count_tables [some a0, some a1, some a2] S) := rfl
theorem c_check_cell (d : Nat) (a0 a1 a2 : D) (S : Store) : Cl (d + 1) id_check_cell [a0, a1, a2] S = fin (exs L.G (Cl d) b_check_cell [some a0, some a1, some a2] S) := rfl
theorem c_exists (d : Nat) (a0 a1 a2 : D) (S : Store) : Cl (d + 1) id_exists [a0, a1, a2] S = fin (exs L.G (Cl d) b_exists [some a0, some a1, some a2] S) := rfl
theorem c_counted (d : Nat) (a0 a1 a2 a3 a4 : D) (S : Store) : Cl (d + 1) id_counted [a0, a1, a2, a3, a4] S = fin (exs L.G (Cl d) b_counted [some a0, some a1, some a2, some a3, some a4, none, none, none, none, none, none, none, none, none, none, none, none, none, none, none] S) := rfl
theorem c_fills (d : Nat) (a0 a1 : D) (S : Store) : Cl (d + 1) id_fills [a0, a1] S = fin (exs L.G (Cl d) b_fills [some a0, some a1, none, none, none] S) := rfl
theorem c_cell_range (d : Nat) (a0 a1 a2 a3 : D) (S : Store) : Cl (d + 1) id_cell_range [a0, a1, a2, a3] S = fin (exs L.G (Cl d) b_cell_range [some a0, some a1, some a2, some a3, none, none] S) := rfl
theorem c_sure_cells (d : Nat) (a0 a1 a2 : D) (S : Store) : Cl (d + 1) id_sure_cells [a0, a1, a2] S = fin (exs L.G (Cl d) b_sure_cells [some a0, some a1, some a2, none, none, none, none, none] S) := rfl
theorem c_transposed (d : Nat) (a0 : D) (S : Store) : Cl (d + 1) id_transposed [a0] S = fin (exs L.G (Cl d) b_transposed [some a0, none, none] S) := rfl
theorem c_format_table (d : Nat) (a0 : D) (S : Store) : Cl (d + 1) id_format_table [a0] S = fin (exs L.G (Cl d) b_format_table [some a0, none, none] S) := rfl
theorem c__law_draw (d : Nat) (a0 a1 : D) (S : Store) : Cl (d + 1) id__law_draw [a0, a1] S = fin (exs L.G (Cl d) b__law_draw [some a0, some a1, none, none, none, none] S) := rfl
theorem c__law_first (d : Nat) (a0 : D) (S : Store) : Cl (d + 1) id__law_first [a0] S = fin (exs L.G (Cl d) b__law_first [some a0] S) := rfl
theorem c__law_second (d : Nat) (S : Store) : Cl (d + 1) id__law_second [] S = fin (exs L.G (Cl d) b__law_second [] S) := rfl
theorem c_Ledger___init__ (d : Nat) (a0 a1 : D) (S : Store) : Cl (d + 1) id_Ledger___init__ [a0, a1] S = fin (exs L.G (Cl d) b_Ledger___init__ [some a0, some a1, none] S) := rfl
theorem c_Ledger_enter (d : Nat) (a0 a1 a2 : D) (S : Store) : Cl (d + 1) id_Ledger_enter [a0, a1, a2] S = fin (exs L.G (Cl d) b_Ledger_enter [some a0, some a1, some a2] S) := rfl
theorem c_Ledger_sheet (d : Nat) (a0 : D) (S : Store) : Cl (d + 1) id_Ledger_sheet [a0] S = fin (exs L.G (Cl d) b_Ledger_sheet [some a0, none] S) := rfl
theorem c_Ledger_gaps (d : Nat) (a0 : D) (S : Store) : Cl (d + 1) id_Ledger_gaps [a0] S = fin (exs L.G (Cl d) b_Ledger_gaps [some a0] S) := rfl
theorem c_Ledger_undo (d : Nat) (a0 : D) (S : Store) : Cl (d + 1) id_Ledger_undo [a0] S = fin (exs L.G (Cl d) b_Ledger_undo [some a0] S) := rfl
theorem c_Ledger___len__ (d : Nat) (a0 : D) (S : Store) : Cl (d + 1) id_Ledger___len__ [a0] S = fin (exs L.G (Cl d) b_Ledger___len__ [some a0] S) := rfl
end K16

namespace K16
open PySem PySem.Spec PyProof.Rows L2 MP
theorem ok : L.ok = true := by decide +kernel
theorem bd__wall : r__wall.BindP top := fun _ _ _ _ _ _ us hl => match us, hl with | [_], _ => rfl
theorem bd_is_int : r_is_int.BindP top := fun _ _ _ _ _ _ us hl => match us, hl with | [_, _, _], _ => rfl
theorem bd_is_block : r_is_block.BindP top := fun _ _ _ _ _ _ us hl => match us, hl with | [_, _, _, _, _], _ => rfl
theorem bd_is_sheet : r_is_sheet.BindP top := fun _ _ _ _ _ _ us hl => match us, hl with | [_], _ => rfl
theorem bd_check_sheet : r_check_sheet.BindP top := fun _ _ _ _ _ _ us hl => match us, hl with | [_], _ => rfl
theorem bd_is_table : r_is_table.BindP top := fun _ _ _ _ _ _ us hl => match us, hl with | [_], _ => rfl
theorem bd_check_table : r_check_table.BindP top := fun _ _ _ _ _ _ us hl => match us, hl with | [_], _ => rfl
theorem bd_check_place : r_check_place.BindP top := fun _ _ _ _ _ _ us hl => match us, hl with | [_, _], _ => rfl
theorem bd_check_sums : r_check_sums.BindP top := fun _ _ _ _ _ _ us hl => match us, hl with | [_], _ => rfl
theorem bd_check_most : r_check_most.BindP top := fun _ _ _ _ _ _ us hl => match us, hl with | [_], _ => rfl
theorem bd_row_gap : r_row_gap.BindP top := fun _ _ _ _ _ _ us hl => match us, hl with | [_], _ => rfl
theorem bd_rows_of : r_rows_of.BindP top := fun _ _ _ _ _ _ us hl => match us, hl with | [_], _ => rfl
theorem bd_columns_of : r_columns_of.BindP top := fun _ _ _ _ _ _ us hl => match us, hl with | [_], _ => rfl
theorem bd_row_gaps : r_row_gaps.BindP top := fun _ _ _ _ _ _ us hl => match us, hl with | [_], _ => rfl
theorem bd_column_gaps : r_column_gaps.BindP top := fun _ _ _ _ _ _ us hl => match us, hl with | [_], _ => rfl
theorem bd_right : r_right.BindP top := fun _ _ _ _ _ _ us hl => match us, hl with | [_], _ => rfl
theorem bd_turned : r_turned.BindP top := fun _ _ _ _ _ _ us hl => match us, hl with | [_], _ => rfl
theorem bd_common_gap : r_common_gap.BindP top := fun _ _ _ _ _ _ us hl => match us, hl with | [_], _ => rfl
theorem bd_sign : r_sign.BindP top := fun _ _ _ _ _ _ us hl => match us, hl with | [_, _], _ => rfl
theorem bd_check_changes : r_check_changes.BindP top := fun _ _ _ _ _ _ us hl => match us, hl with | [_, _], _ => rfl
theorem bd_is_place : r_is_place.BindP top := fun _ _ _ _ _ _ us hl => match us, hl with | [_, _], _ => rfl
theorem bd_put : r_put.BindP top := fun _ _ _ _ _ _ us hl => match us, hl with | [_, _], _ => rfl
theorem bd_moved_by : r_moved_by.BindP top := fun _ _ _ _ _ _ us hl => match us, hl with | [_, _], _ => rfl
theorem bd_within : r_within.BindP top := fun _ _ _ _ _ _ us hl => match us, hl with | [_], _ => rfl
theorem bd_single_mends : r_single_mends.BindP top := fun _ _ _ _ _ _ us hl => match us, hl with | [_], _ => rfl
theorem bd_entry_for : r_entry_for.BindP top := fun _ _ _ _ _ _ us hl => match us, hl with | [_, _], _ => rfl
theorem bd_completed : r_completed.BindP top := fun _ _ _ _ _ _ us hl => match us, hl with | [_], _ => rfl
theorem bd_nodes_of : r_nodes_of.BindP top := fun _ _ _ _ _ _ us hl => match us, hl with | [_], _ => rfl
theorem bd_is_balanced : r_is_balanced.BindP top := fun _ _ _ _ _ _ us hl => match us, hl with | [_], _ => rfl
theorem bd_parts_with_first : r_parts_with_first.BindP top := fun _ _ _ _ _ _ us hl => match us, hl with | [_], _ => rfl
theorem bd_best_parts : r_best_parts.BindP top := fun _ _ _ _ _ _ us hl => match us, hl with | [_, _], _ => rfl
theorem bd_fewest : r_fewest.BindP top := fun _ _ _ _ _ _ us hl => match us, hl with | [_], _ => rfl
theorem bd_gap_changes : r_gap_changes.BindP top := fun _ _ _ _ _ _ us hl => match us, hl with | [_, _], _ => rfl
theorem bd_check_kind : r_check_kind.BindP top := fun _ _ _ _ _ _ us hl => match us, hl with | [_, _, _], _ => rfl
theorem bd_chosen : r_chosen.BindP top := fun _ _ _ _ _ _ us hl => match us, hl with | [_], _ => rfl
theorem bd_is_cut : r_is_cut.BindP top := fun _ _ _ _ _ _ us hl => match us, hl with | [_, _, _, _, _], _ => rfl
theorem bd_cut_of : r_cut_of.BindP top := fun _ _ _ _ _ _ us hl => match us, hl with | [_, _, _], _ => rfl
theorem bd_can_be : r_can_be.BindP top := fun _ _ _ _ _ _ us hl => match us, hl with | [_, _, _], _ => rfl
theorem bd_rows_with : r_rows_with.BindP top := fun _ _ _ _ _ _ us hl => match us, hl with | [_, _], _ => rfl
theorem bd_ways_from : r_ways_from.BindP top := fun _ _ _ _ _ _ us hl => match us, hl with | [_, _, _, _], _ => rfl
theorem bd_count_tables : r_count_tables.BindP top := fun _ _ _ _ _ _ us hl => match us, hl with | [_, _, _], _ => rfl
theorem bd_check_cell : r_check_cell.BindP top := fun _ _ _ _ _ _ us hl => match us, hl with | [_, _, _], _ => rfl
theorem bd_exists : r_exists.BindP top := fun _ _ _ _ _ _ us hl => match us, hl with | [_, _, _], _ => rfl
theorem bd_counted : r_counted.BindP top := fun _ _ _ _ _ _ us hl => match us, hl with | [_, _, _, _, _], _ => rfl
theorem bd_fills : r_fills.BindP top := fun _ _ _ _ _ _ us hl => match us, hl with | [_, _], _ => rfl
theorem bd_cell_range : r_cell_range.BindP top := fun _ _ _ _ _ _ us hl => match us, hl with | [_, _, _, _], _ => rfl
theorem bd_sure_cells : r_sure_cells.BindP top := fun _ _ _ _ _ _ us hl => match us, hl with | [_, _, _], _ => rfl
theorem bd_transposed : r_transposed.BindP top := fun _ _ _ _ _ _ us hl => match us, hl with | [_], _ => rfl
theorem bd_format_table : r_format_table.BindP top := fun _ _ _ _ _ _ us hl => match us, hl with | [_], _ => rfl
theorem bd__law_draw : r__law_draw.BindP top := fun _ _ _ _ _ _ us hl => match us, hl with | [_, _], _ => rfl
theorem bd__law_first : r__law_first.BindP top := fun _ _ _ _ _ _ us hl => match us, hl with | [_], _ => rfl
theorem bd__law_second : r__law_second.BindP top := fun _ _ _ _ _ _ us hl => match us, hl with | [], _ => rfl
theorem bd_Ledger___init__ : r_Ledger___init__.BindP top := fun _ _ _ _ _ _ us hl => match us, hl with | [_, _], _ => rfl
theorem bd_Ledger_enter : r_Ledger_enter.BindP top := fun _ _ _ _ _ _ us hl => match us, hl with | [_, _, _], _ => rfl
theorem bd_Ledger_sheet : r_Ledger_sheet.BindP top := fun _ _ _ _ _ _ us hl => match us, hl with | [_], _ => rfl
theorem bd_Ledger_gaps : r_Ledger_gaps.BindP top := fun _ _ _ _ _ _ us hl => match us, hl with | [_], _ => rfl
theorem bd_Ledger_undo : r_Ledger_undo.BindP top := fun _ _ _ _ _ _ us hl => match us, hl with | [_], _ => rfl
theorem bd_Ledger___len__ : r_Ledger___len__.BindP top := fun _ _ _ _ _ _ us hl => match us, hl with | [_], _ => rfl
theorem bd__law_start : r__law_start.BindP top := fun _ _ _ _ _ _ us hl => match us, hl with | [_], _ => rfl
theorem bd_law : r_law.BindP top := fun _ _ _ _ _ _ us hl => match us, hl with | [_], _ => rfl
theorem bds : AllB L.top L.rows := ⟨bd__wall, bd_is_int, bd_is_block, bd_is_sheet, bd_check_sheet, bd_is_table, bd_check_table, bd_check_place, bd_check_sums, bd_check_most, bd_row_gap, bd_rows_of, bd_columns_of, bd_row_gaps, bd_column_gaps, bd_right, bd_turned, bd_common_gap, bd_sign, bd_check_changes, bd_is_place, bd_put, bd_moved_by, bd_within, bd_single_mends, bd_entry_for, bd_completed, bd_nodes_of, bd_is_balanced, bd_parts_with_first, bd_best_parts, bd_fewest, bd_gap_changes, bd_check_kind, bd_chosen, bd_is_cut, bd_cut_of, bd_can_be, bd_rows_with, bd_ways_from, bd_count_tables, bd_check_cell, bd_exists, bd_counted, bd_fills, bd_cell_range, bd_sure_cells, bd_transposed, bd_format_table, bd__law_draw, bd__law_first, bd__law_second, bd_Ledger___init__, bd_Ledger_enter, bd_Ledger_sheet, bd_Ledger_gaps, bd_Ledger_undo, bd_Ledger___len__, trivial⟩
end K16
end

section
set_option Elab.async false
set_option linter.all false
set_option maxRecDepth 100000
set_option maxHeartbeats 4000000
namespace K16
open PySem MP
theorem big_of {n : Nat} (h : n ≤ 1000) : n ≤ big := by unfold big; omega
theorem at_int (r : List Int) {k : Nat} (h : k < r.length) : L2.atI (r.map PyData.int) (k : Int) = some (.int (r.getD k 0)) := by
  refine at_nat _ k _ ?_
  rw [List.getElem?_map, List.getElem?_eq_getElem h, List.getD_eq_getElem?_getD, List.getElem?_eq_getElem h]; rfl
def DS (ns : List Int) (n : Nat) (rest : Store) : Store := .lst (ns.map .int) :: .lst [rf 0, .int (n : Int)] :: rest
theorem viewR_lst {S : Store} {n : Nat} {xs : List D} (h : S[n]? = some (.lst xs)) : viewR S (rf n) = some xs := by
  unfold viewR; rw [asRef_rf]; simp only [h]
theorem viewS_rf (S : Store) (n : Nat) : viewS S (rf n) = viewR S (rf n) := rfl
theorem viewL_rf (S : Store) (n : Nat) : viewL S (rf n) = viewR S (rf n) := rfl
theorem vS0 (ns : List Int) (n : Nat) (rest : Store) : viewS (DS ns n rest) (rf 0) = some (ns.map .int) := by rw [viewS_rf]; exact viewR_lst rfl
theorem vS1 (ns : List Int) (n : Nat) (rest : Store) : viewS (DS ns n rest) (rf 1) = some [rf 0, .int (n : Int)] := by rw [viewS_rf]; exact viewR_lst rfl
theorem set1 (ns : List Int) (n : Nat) (rest : Store) : setIx (DS ns n rest) (rf 1) (.int 1) (.int ((n : Int) + 1)) = some (DS ns (n + 1) rest) := rfl
theorem set0 (ns : List Int) (n k : Nat) (rest : Store) (v : Int) (hk : k < ns.length) : setIx (DS ns n rest) (rf 0) (.int (k : Int)) (.int v) = some (DS (ns.set k v) n rest) := by
  have e : L2.ixN (ns.map PyData.int).length (k : Int) = some k := by
    unfold L2.ixN
    rw [if_pos (by omega), if_pos (by simpa using hk), Int.toNat_natCast]
  unfold setIx
  rw [asRef_rf]
  simp only [DS, List.getElem?_cons_zero, e, Option.map_some, List.set_cons_zero, List.map_set]
theorem at10 (a b : D) : L2.atI [a, b] 0 = some a := rfl
theorem at11 (a b : D) : L2.atI [a, b] 1 = some b := rfl
theorem mod_pos (S : Store) (i j : Int) (h : 0 < j) : binD S .mod (.int i) (.int j) = .ok (.int (i % j)) S := by
  show okI (decide (0 < j)) (.int (i % j)) S = _
  rw [decide_eq_true h]; rfl
theorem div_pos (S : Store) (i j : Int) (h : 0 < j) (h2 : j < 1073741824) : binD S .fdiv (.int i) (.int j) = .ok (.int (i / j)) S := by
  show okI (decide (0 < j) && decide (j < 1073741824)) (.int (i / j)) S = _
  rw [decide_eq_true h, decide_eq_true h2]; rfl
theorem mul_small (S : Store) (i j : Int) (h : (small i || small j) = true) : binD S .mul (.int i) (.int j) = .ok (.int (i * j)) S := by
  show okI (small i || small j) (.int (i * j)) S = _
  rw [h]; rfl
theorem pow5 (S : Store) (i : Int) (h : 0 ≤ i) (h2 : i < 2 ^ 64) : binD S .pow (.int i) (.int 5) = .ok (.int (i ^ 5)) S := by
  show okI (decide ((0 : Int) ≤ 5) && decide ((5 : Int) ≤ 1000000) && decide (i.natAbs < 2 ^ 64)) (.int (i ^ 5)) S = _
  have : i.natAbs < 2 ^ 64 := by omega
  rw [decide_eq_true this]; rfl
theorem add_int (S : Store) (i j : Int) : binD S .add (.int i) (.int j) = .ok (.int (i + j)) S := rfl
theorem sub_int (S : Store) (i j : Int) : binD S .sub (.int i) (.int j) = .ok (.int (i - j)) S := rfl
theorem m_draw (d : Nat) (ns : List Int) (n : Nat) (rest : Store) (lim : Int) (h0 : ns ≠ []) (h1 : 0 < lim) (h2 : lim < 1073741824) :
    ∃ v ns', Cl (d + 1) id__law_draw [rf 1, .int lim] (DS ns n rest) = .ok (.int v) (DS ns' (n + 1) rest) ∧ 0 ≤ v ∧ v < lim ∧ ns' ≠ [] := by
  have hl : 0 < ns.length := List.length_pos_iff.mpr h0
  have hk : (n + 1) % ns.length < ns.length := Nat.mod_lt _ hl
  generalize ek : (n + 1) % ns.length = k at hk
  have ek2 : ((n : Int) + 1) % (ns.length : Int) = (k : Int) := by rw [← ek]; push_cast; rfl
  have cell := at_int ns hk
  generalize hc : ns.getD k 0 = c at cell
  rw [c__law_draw]
  unfold b__law_draw
  have vm : ∀ S : Store, binD S .mod (.int ((n : Int) + 1)) (.int (ns.length : Int)) = .ok (.int (k : Int)) S := fun S => by rw [mod_pos _ _ _ (by omega), ek2]
  rw [exs_nx (r' := [some (rf 1), some (.int lim), some (rf 0), none, none, none]) (S' := DS ns n rest) (by simp [exs, ex, ev, getV, ixD, vS1, at10, bT_nm]),
    exs_nx (r' := [some (rf 1), some (.int lim), some (rf 0), none, none, none]) (S' := DS ns (n + 1) rest) (by simp [exs, ex, ev, getV, ixD, vS1, at11, add_int, set1]),
    exs_nx (r' := [some (rf 1), some (.int lim), some (rf 0), some (.int (k : Int)), none, none]) (S' := DS ns (n + 1) rest) (by simp [exs, ex, ev, evs, getV, ixD, vS1, vS0, at11, primD, vm, bT_nm]),
    exs_nx (r' := [some (rf 1), some (.int lim), some (rf 0), some (.int (k : Int)), some (.int c), none]) (S' := DS ns (n + 1) rest) (by simp [exs, ex, ev, evs, getV, ixD, vS0, cell, bT_nm])]
  by_cases hbig : (1000000000000000000 : Int) ≤ c
  · refine ⟨c % lim, ns.set k (c / lim), ?_, Int.emod_nonneg _ (by omega), Int.emod_lt_of_pos _ h1, fun e => h0 (by have := congrArg List.length e; simp at this; exact this)⟩
    rw [exs_rt (d := .int (c % lim)) (r' := [some (rf 1), some (.int lim), some (rf 0), some (.int (k : Int)), some (.int c), none]) (S' := DS (ns.set k (c / lim)) (n + 1) rest) (by simp [exs, ex, ev, evs, getV, cmpR, hbig, div_pos _ _ _ h1 h2, set0 _ _ _ _ _ hk, mod_pos _ _ _ h1]), fin_rt]
  · have m1 : 0 ≤ (c + 104729 * ((n : Int) + 1)) % 4294967291 := Int.emod_nonneg _ (by omega)
    have m2 : (c + 104729 * ((n : Int) + 1)) % 4294967291 < 4294967291 := Int.emod_lt_of_pos _ (by omega)
    generalize hm : (c + 104729 * ((n : Int) + 1)) % 4294967291 = m at m1 m2
    generalize hq : m ^ 5 % 4294967279 = q
    refine ⟨(q / 64 * 69621 + q) % 4294967231 / 8 % lim, ns, ?_, Int.emod_nonneg _ (by omega), Int.emod_lt_of_pos _ h1, h0⟩
    rw [exs_nx (r' := [some (rf 1), some (.int lim), some (rf 0), some (.int (k : Int)), some (.int c), none]) (S' := DS ns (n + 1) rest) (by simp [exs, ex, ev, evs, getV, cmpR, hbig]),
      exs_nx (r' := [some (rf 1), some (.int lim), some (rf 0), some (.int (k : Int)), some (.int c), some (.int m)]) (S' := DS ns (n + 1) rest) (by simp [exs, ex, ev, evs, getV, ixD, vS1, at11, add_int, mul_small _ 104729 _ (by rfl), mod_pos, hm, bT_nm]),
      exs_nx (r' := [some (rf 1), some (.int lim), some (rf 0), some (.int (k : Int)), some (.int c), some (.int q)]) (S' := DS ns (n + 1) rest) (by simp [exs, ex, ev, evs, getV, pow5 _ m m1 (by omega), mod_pos, hq, bT_nm]),
      exs_rt (d := .int ((q / 64 * 69621 + q) % 4294967231 / 8 % lim)) (r' := [some (rf 1), some (.int lim), some (rf 0), some (.int (k : Int)), some (.int c), some (.int q)]) (S' := DS ns (n + 1) rest) (by simp [exs, ex, ev, evs, getV, div_pos, mul_small _ _ 69621 (by simp [show small 69621 = true from rfl]), add_int, mod_pos, mod_pos _ _ _ h1]), fin_rt]
def IsDS (rest : Store) (S : Store) : Prop := ∃ ns n, ns ≠ [] ∧ S = DS ns n rest
theorem p_draw (d : Nat) {rest S : Store} (h : IsDS rest S) (lim : Int) (h1 : 0 < lim) (h2 : lim < 1073741824) : ∃ v S', Cl (d + 1) id__law_draw [rf 1, .int lim] S = .ok (.int v) S' ∧ 0 ≤ v ∧ v < lim ∧ IsDS rest S' := by
  obtain ⟨ns, n, h0, rfl⟩ := h
  obtain ⟨v, ns', e, a, b, c⟩ := m_draw d ns n rest lim h0 h1 h2
  exact ⟨v, _, e, a, b, ns', _, c, rfl⟩
end K16
end

section
set_option Elab.async false
set_option linter.all false
set_option maxRecDepth 100000
set_option maxHeartbeats 0
namespace K16
open PySem MP
def pre : Ss := match b_law with
  | .cons a (.cons b (.cons c (.cons d _))) => .cons a (.cons b (.cons c (.cons d .nil)))
  | _ => .nil
def post : Ss := match b_law with
  | .cons _ (.cons _ (.cons _ (.cons _ p))) => p
  | _ => .nil
def last : Ss := match post with
  | .cons _ p => p
  | _ => .nil
def res0 : SR := exs L.G (Cl 21) pre (r0 5) (DQ [] 0 [])
def r4 : MP.Env := envOf res0
def rest4 : Store := restOf res0
theorem pre_ok (c0 : List D) : exs L.G (Cl 21) pre (r0 5) (DQ c0 0 []) = .ok (.nx, r4) (DQ c0 0 rest4) := by kernel_rfl
theorem r4_eq : r4 = [none, some (rf 1), r4.getD 2 none, r4.getD 3 none, none] := by kernel_rfl
theorem post_eq : post = .cons (.asg (.nm 4) (.call id__law_draw (.cons (.var 1) (.cons (.int 10) .nil)))) last := rfl
theorem law_eq : L.law.body = app pre post := rfl
theorem last_ok (v : Nat) (hv : v < 10) (c0 : List D) (n : Int) : isT (exs L.G (Cl 21) last (r4.set 4 (some (.int (v : Int)))) (DQ c0 n rest4)) = true := by
  match v, hv with
  | 0, _ => kernel_rfl
  | 1, _ => kernel_rfl
  | 2, _ => kernel_rfl
  | 3, _ => kernel_rfl
  | 4, _ => kernel_rfl
  | 5, _ => kernel_rfl
  | 6, _ => kernel_rfl
  | 7, _ => kernel_rfl
  | 8, _ => kernel_rfl
  | 9, _ => kernel_rfl
theorem cells_ne (ns : List Int) : cells ns ≠ [] := by
  unfold cells
  split
  · simp
  · assumption
theorem runs : ∀ ns, Runs L.G L.T 21 L.law.body L.law.N.length ns := by
  intro ns
  show ∃ r' S', exs L.G (Cl 21) L.law.body (r0 5) (DQ ((cells ns).map .int) 0 []) = _
  rw [law_eq, exs_app pre post (pre_ok _), post_eq]
  obtain ⟨v, S', e, h0, h1, ns', n', hne, rfl⟩ := p_draw 20 (rest := rest4) (S := DQ ((cells ns).map .int) 0 rest4) ⟨cells ns, 0, cells_ne ns, rfl⟩ 10 (by omega) (by omega)
  obtain ⟨k, rfl⟩ : ∃ k : Nat, v = (k : Int) := ⟨v.toNat, by omega⟩
  have hs : ex L.G (Cl 21) (.asg (.nm 4) (.call id__law_draw (.cons (.var 1) (.cons (.int 10) .nil)))) r4 (DQ ((cells ns).map .int) 0 rest4) = .ok (.nx, r4.set 4 (some (.int (k : Int)))) (DS ns' n' rest4) := by
    rw [r4_eq]
    simp [ex, ev, evs, getV, e, bT_nm]
  rw [exs_nx hs]
  exact isT_ok (last_ok k (by omega) _ _)
end K16
end
section
set_option Elab.async false
set_option linter.all false
set_option maxRecDepth 100000
set_option maxHeartbeats 0

namespace K16
open PySem PySem.Spec PyProof.Rows L2 MP
def loose : List Str := (["_wall", "SheetError", "BadSheet", "BadTable", "BadSums", "BadNumber", "BadChanges", "NotFound", "MOST_ENTRY", "is_int", "is_block", "is_sheet", "check_sheet", "is_table", "check_table", "check_place", "check_sums", "check_most", "row_gap", "rows_of", "columns_of", "row_gaps", "column_gaps", "right", "turned", "common_gap", "sign", "check_changes", "is_place", "put"] : List Str) ++ (["moved_by", "within", "single_mends", "entry_for", "completed", "nodes_of", "is_balanced", "parts_with_first", "best_parts", "fewest", "gap_changes", "check_kind", "chosen", "is_cut", "cut_of", "can_be", "rows_with", "ways_from", "count_tables", "check_cell", "exists", "counted", "fills", "cell_range", "sure_cells", "transposed", "Ledger", "format_table", "_law_start", "_law_draw"] : List Str) ++ (["_law_first", "_law_second"] : List Str)
abbrev R : PySem.W.OpenRow := PySem.W.OpenLaw.row PySem.Challenge.rw_crosssums_k16_examples
def obsA (as : List Addr) (fa : List He.Fa) (fn : List He.DefD) (ex : PySem.W.Frag → Bool) (g : Addr → Option Obj) : He.AlD × Bool := (He.obsD fa fn (He.frG g as), ex (He.frG g as))
def hookA (as : List Addr) (fa : List He.Fa) (fn : List He.DefD) (ex : PySem.W.Frag → Bool) : PySem.W.Hook where
  α := He.AlD × Bool
  obs := fun s => obsA as fa fn ex s.heap.get?
  val := fun _ => (He.valD fn, true)
  says := fun _ h => ∃ K : PySem.W.Frag, K.In h ∧ He.SaysD fa fn K ∧ ex K = true
  of := fun _ _ e => ⟨_, He.frG_in, congrArg Prod.fst e, congrArg Prod.snd e⟩
  keeps := fun _ _ _ ⟨K, hK, q⟩ k => ⟨K, PySem.W.Frag.In.keeps hK k, q⟩
theorem obsA_eq {as : List Addr} {fa : List He.Fa} {fn : List He.DefD} {ex : PySem.W.Frag → Bool} {g : Addr → Option Obj} {s : Shared} (h : ∀ a, g a = s.heap.get? a) : obsA as fa fn ex g = (hookA as fa fn ex).obs s := by
  have e : g = s.heap.get? := funext h
  rw [e]
  rfl
def seen : List Addr := [3, 6, 4, 21, 31, 44, 56, 68, 80, 92, 104, 113, 118, 125, 132, 139, 146, 153, 158, 165, 172, 177, 182, 189, 196, 203, 210, 217, 224, 229, 236, 241, 248, 253, 258, 265, 270, 275, 280, 285, 290, 295, 300, 307, 312, 317, 324, 331, 336, 341, 348, 355, 362, 367, 372, 377, 382, 387, 435, 444, 451, 458, 465, 472, 479, 0, 20, 30, 43, 55, 67, 79, 91, 103, 112, 117, 124, 131, 138, 145, 152, 157, 164, 171, 176, 181, 188, 195, 202, 209, 216, 223, 228, 235, 240, 247, 252, 257, 264, 269, 274, 279, 284, 289, 294, 299, 306, 311, 316, 323, 330, 335, 340, 347, 354, 361, 366, 371, 376, 381, 386, 434, 443, 450, 457, 464, 471, 478, 15, 16, 17, 18, 19, 29, 32, 42, 54, 66, 78, 90, 102, 107, 108, 109, 110, 111, 114, 115, 116, 119, 120, 121, 122, 123, 126, 127, 128, 129, 130, 133, 134, 135, 136, 137, 140, 141, 142, 143, 144, 147, 148, 149, 150, 151, 154, 155, 156, 159, 160, 161, 162, 163, 166, 167, 168, 169, 170, 173, 174, 175, 178, 179, 180, 183, 184, 185, 186, 187, 190, 191, 192, 193, 194, 197, 198, 199, 200, 201, 204, 205, 206, 207, 208, 211, 212, 213, 214, 215, 218, 219, 220, 221, 222, 225, 226, 227, 230, 231, 232, 233, 234, 237, 238, 239, 242, 243, 244, 245, 246, 249, 250, 251, 254, 255, 256, 259, 260, 261, 262, 263, 266, 267, 268, 271, 272, 273, 276, 277, 278, 281, 282, 283, 286, 287, 288, 291, 292, 293, 296, 297, 298, 301, 302, 303, 304, 305, 308, 309, 310, 313, 314, 315, 318, 319, 320, 321, 322, 325, 326, 327, 328, 329, 332, 333, 334, 337, 338, 339, 342, 343, 344, 345, 346, 349, 350, 351, 352, 353, 356, 357, 358, 359, 360, 363, 364, 365, 368, 369, 370, 373, 374, 375, 378, 379, 380, 383, 384, 385, 399, 406, 411, 418, 425, 432, 433, 436, 437, 440, 441, 442, 445, 446, 447, 448, 449, 452, 453, 454, 455, 456, 459, 460, 461, 462, 463, 466, 467, 468, 469, 470, 473, 474, 475, 476, 477, 398, 405, 410, 417, 424, 431]
abbrev hk : PySem.W.Hook := hookA seen L.fa L.fns L.exK
def ob (s : PySem.W.SharedT) : He.AlD × Bool := obsA seen L.fa L.fns L.exK (HandSHeadRun.getT s)
theorem ob_eq (s : PySem.W.SharedT) : ob s = hk.obs s.abs := obsA_eq (HandSHeadRun.getT_eq s)
theorem join3 {α β γ δ : Type} {E : Option α} {f : α → β} {g : α → γ} {h : α → δ} {x : β} {y : γ} {z : δ} (h1 : E.map f = some x) (h2 : E.map g = some y) (h3 : E.map h = some z) : (E.map fun s => (f s, g s, h s)) = some (x, y, z) := by
  cases E with
  | none => cases h1
  | some s =>
    cases h1
    cases h2
    cases h3
    rfl
open PySem.W PySem.Calls HandSHeadRun in
theorem run1 (w : World) (os : OsState) : ((endF (stepQ (denQ tabQ) R.prog w) 6000 R.prog w os).map (fun s => looksF R.prog (boot_heap w.params) s.abs)) = some true := by kernel_rfl
open PySem.W PySem.Calls HandSHeadRun in
theorem run2 (w : World) (os : OsState) : ((endF (stepQ (denQ tabQ) R.prog w) 6000 R.prog w os).map (fun s => seenQ (PySem.W.view R.prog [74]) loose (importedModules R.prog.main.body) (fun s => xlAt (PySem.W.view R.prog [74]) [] s && recOk R.toRowW.records s) s.abs)) = some (openGood (PySem.W.view R.prog [74]) loose) := by kernel_rfl
open PySem.W PySem.Calls HandSHeadRun in
theorem run3 (w : World) (os : OsState) : ((endF (stepQ (denQ tabQ) R.prog w) 6000 R.prog w os).map ob) = some (hk.val w) := by kernel_rfl
theorem run (w : World) : HandSHeadRun.RunEq R (PySem.W.view R.prog [74]) hk ob 6000 loose w := by
  intro os
  exact join3 (run1 w os) (run2 w os) (run3 w os)
end K16
end

section
set_option Elab.async false
set_option linter.all false
set_option maxRecDepth 100000
set_option maxHeartbeats 0

open PySem PySem.W PySem.Calls PyProof.Rows
theorem PySem.Challenge.cw_crosssums_k16_examples_holds : PySem.Challenge.rw_crosssums_k16_examples.Holds := by
  w_on; o_law
  refine HandSHeadRun.head_any (r := OpenLaw.row PySem.Challenge.rw_crosssums_k16_examples) (q := view (OpenLaw.row PySem.Challenge.rw_crosssums_k16_examples).prog [74]) (H := K16.hk) (ob := K16.ob) (M := 6000) (loose := K16.loose) (d := HandSHeadRun.topDef (OpenLaw.row PySem.Challenge.rw_crosssums_k16_examples).prog 74) (kwd := []) K16.ob_eq
    (by kernel_rfl) (fun s => by kernel_rfl) K16.run (by kernel_rfl) (by kernel_rfl) (by kernel_rfl) (by rfl) (by first | assumption | decide +kernel) (by decide +kernel) ⟨rfl, rfl, rfl, rfl, rfl, by decide +kernel⟩ ?hw ?hc
  case hw => w_witness2
  case hc =>
    refine L2.walk_ofE (l := PySem.Challenge.rw_crosssums_k16_examples) (n := 63) (k := 44) (x := "script") (CX := L2.CX0) rfl (by decide) (by kernel_rfl) ⟨rfl, by decide, by decide⟩ ?F (fun _ _ _ _ z => z)
    intro w mg fa h Y G hmg0
    obtain ⟨K, KX, c, cx⟩ := Y
    have hmg : mg ("law" : PySem.Str) = some (.ref fa) := by
      have e : (HandSHeadRun.topDef (OpenLaw.row PySem.Challenge.rw_crosssums_k16_examples).prog 74).name = ("law" : PySem.Str) := by kernel_rfl
      rw [← e]
      exact hmg0
    obtain ⟨fd, hb, hF⟩ := MP.Lw.facts (L := K16.L) (P := (PySem.Challenge.rw_crosssums_k16_examples).prog) (w := w) 20 KX G hmg c cx K16.bds K16.bd__law_start K16.bd_law K16.ok
    exact ⟨K, fd, MP.spLaw K K16.L.G K16.L.T 21 K16.L.law.body K16.L.law.N.length, KX, hb, fun H a ns hl _ hS => ⟨a, ns, rfl, hS, hl, K16.runs ns, fun _ => rfl⟩, hF⟩
end
